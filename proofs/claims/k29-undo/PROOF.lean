import PyProof.Rows.All
import Wide.All
import OpenK.AllK
import Wide.FinOn
import HandS.HeadHook3
import PyProof.Rows.All
import HandS.Base
import HandS.ForExc
import HandS.Exc
import HandS.ExcOwn
import HandS.TryOnly
import HandS.ExcInit
import HandS.ForMost
import HandS.TupAny
import PyProof.StrOps2
import HandS.Text
import HandS.IsInst
import HandS.Deep
import HandS.TupLen
import HandS.RaiseMore
import HandS.AnyAll
import HandS.StrMore
import HandS.ReplaceLit
import HandS.Zip
import HandS.CallLocal
import HandS.DictTup
import HandS.Conv
import KE.KDictLaws
import PyProof.DictMoreH
import HandS.Style
import KE.GoesZip
import KE.GoesMore
import PyProof.SliceStr2
import HandS.Finally
import KE.SortData
import KE.KDictSum
import HandS.ExcIs
import HandS.TupLe
import HandS.WrittenGet
import HandS.Comp
import HandS.ExcField
import HandS.FStr
import HandS.ReplaceList
import HandS.TryMany
import HandS.More
import OpenK.AllK
import Wide.FinOn
import KE.KStateDown
import HandS.Head0
import HandS.Head1
import HandS.Head2
import HandS.HeadHook1
import HandS.HeadEnd
import PySem.Challenge.RW_deepbench_k29_undo_and_redo
set_option Elab.async false
set_option linter.all false
set_option maxRecDepth 100000
section
set_option autoImplicit false
/-! L3.Def: what a piece of Python asks, over values with tuples by value and a heap of what can change. No library is needed here. -/
namespace L3

inductive W where
  | non | bl (b : Bool) | int (i : Int) | str (x : List Nat) | ref (a : Nat) | ty (n : String) | tup (ws : List W) | kl (ws : List W) | ktp (ws : List W)

inductive O where
  | lst (ws : List W)
  | dct (kvs : List (W × W))
  | dtt (kvs : List (W × W))
  | ins (C : Nat) (ns : List (List Nat)) (ws : List W)
  | rdl (ws : List W)
  | exo (C : Nat) (ns : List (List Nat)) (ws : List W)
  | rdc (kvs : List (W × W))
  | rdt (kvs : List (W × W))
abbrev Gh := Nat → Option O
def up (G : Gh) (a : Nat) (o : O) : Gh := fun b => if b = a then some o else G b
@[simp] theorem up_same {G : Gh} {a : Nat} {o : O} : up G a o a = some o := by unfold up; rw [if_pos rfl]
theorem up_ne {G : Gh} {a b : Nat} {o : O} (h : b ≠ a) : up G a o b = G b := by unfold up; rw [if_neg h]
theorem up_ne' {G : Gh} {a b : Nat} {o : O} (h : a ≠ b) : up G a o b = G b := up_ne h.symm
@[simp] theorem up_up {G : Gh} {a : Nat} {o u : O} : up (up G a o) a u = up G a u := by
  funext b; unfold up; split <;> rfl
theorem up_comm {G : Gh} {a b : Nat} {o u : O} (h : a ≠ b) : up (up G a o) b u = up (up G b u) a o := by
  funext c; unfold up; split
  · rename_i e; subst e; rw [if_neg (Ne.symm h)]
  · rfl
theorem up_self {G : Gh} {a : Nat} {o : O} (h : G a = some o) : up G a o = G := by
  funext b; unfold up; split
  · rename_i e; rw [e, h]
  · rfl
/-- every object of G stands in G' -/
def Le (G G' : Gh) : Prop := ∀ a o, G a = some o → G' a = some o
theorem Le.refl {G : Gh} : Le G G := fun _ _ h => h
theorem Le.trans {G G1 G2 : Gh} (a : Le G G1) (b : Le G1 G2) : Le G G2 := fun c o h => b c o (a c o h)
theorem Le.up {G : Gh} {a : Nat} {o : O} (h : G a = none) : Le G (up G a o) := fun b u e => by
  rw [up_ne]; exact e
  rintro rfl; rw [h] at e; cases e
theorem Le.up2 {G G' : Gh} {a : Nat} {o : O} (l : Le G G') : Le (L3.up G a o) (L3.up G' a o) := fun b u e => by
  by_cases hb : b = a
  · subst hb; rw [up_same] at e ⊢; exact e
  · rw [up_ne hb] at e ⊢; exact l b u e
theorem ne_free {G : Gh} {a p : Nat} {o : O} (h : G a = some o) (hp : G p = none) : p ≠ a := by rintro rfl; rw [h] at hp; cases hp
theorem ne_free' {G : Gh} {a p : Nat} {o : O} (h : G a = some o) (hp : G p = none) : a ≠ p := (ne_free h hp).symm
theorem free_up {G : Gh} {a p : Nat} {o : O} (h : up G a o p = none) : p ≠ a ∧ G p = none := by
  by_cases e : p = a
  · subst e; rw [up_same] at h; cases h
  · rw [up_ne e] at h; exact ⟨e, h⟩

/-! ### frames -/
abbrev Fr := List (Option W)
def get : Fr → Nat → Option W
  | [], _ => none
  | o :: _, 0 => o
  | _ :: r, i + 1 => get r i
def put : Fr → Nat → W → Fr
  | [], _, _ => []
  | _ :: r, 0, w => some w :: r
  | o :: r, i + 1, w => o :: put r i w
def startF (n : Nat) (ws : List W) : Fr := ws.map some ++ List.replicate (n - ws.length) none
def del : Fr → Nat → Fr
  | [], _ => []
  | _ :: r, 0 => none :: r
  | o :: r, i + 1 => o :: del r i
def wipe (γ : Fr) : List Nat → Fr
  | [] => γ
  | i :: r => del (wipe γ r) i
@[simp] theorem get_zero {o : Option W} {r : Fr} : get (o :: r) 0 = o := rfl
@[simp] theorem get_succ {o : Option W} {r : Fr} {i : Nat} : get (o :: r) (i + 1) = get r i := rfl
@[simp] theorem put_zero {o : Option W} {r : Fr} {w : W} : put (o :: r) 0 w = some w :: r := rfl
@[simp] theorem put_succ {o : Option W} {r : Fr} {i : Nat} {w : W} : put (o :: r) (i + 1) w = o :: put r i w := rfl
@[simp] theorem del_zero {o : Option W} {r : Fr} : del (o :: r) 0 = none :: r := rfl
@[simp] theorem del_succ {o : Option W} {r : Fr} {i : Nat} : del (o :: r) (i + 1) = o :: del r i := rfl
@[simp] theorem wipe_nil {γ : Fr} : wipe γ [] = γ := rfl
@[simp] theorem wipe_cons {γ : Fr} {i : Nat} {r : List Nat} : wipe γ (i :: r) = del (wipe γ r) i := rfl

/-! ### readings -/
abbrev QV := W → Gh → Prop
abbrev XQ := W → List W → Gh → Prop
abbrev TE := Fr → Gh → XQ → QV → Prop
abbrev TT := Fr → Gh → XQ → (Bool → Gh → Prop) → Prop
abbrev TA := Fr → Gh → XQ → (List W → Gh → Prop) → Prop
structure Ends where
  nx : Fr → Gh → Prop
  rt : QV
  ex : Fr → XQ
  bk : Fr → Gh → Prop := fun _ _ => False
  ct : Fr → Gh → Prop := fun _ _ => False
abbrev TS := Ends → Fr → Gh → Prop
abbrev TG := W → Fr → Gh → (Fr → Gh → Prop) → Prop
abbrev TGs := List W → Fr → Gh → (Fr → Gh → Prop) → Prop
abbrev X0 : XQ := fun _ _ _ => False
abbrev Sp := List W → Gh → QV → XQ → Prop
/-- a promise asks no more of weaker ends -/
def Mono (sp : Sp) : Prop := ∀ ws G Q Q' E E', (∀ w G', Q w G' → Q' w G') → (∀ w es G', E w es G' → E' w es G') → sp ws G Q E → sp ws G Q' E'
/-- what the wanted ends bear: that objects are forgotten -/
structure Fgt (Q : QV) (E : XQ) : Prop where
  rt : ∀ w G G', Le G G' → Q w G → Q w G'
  ex : ∀ w es G G', Le G G' → E w es G → E w es G'
abbrev R1 := W → Gh → QV → Prop
abbrev R2 := W → W → Gh → QV → Prop

@[simp] def eVar (i : Nat) : TE := fun γ G _ Q => match get γ i with | some w => Q w G | none => False
@[simp] def eC (w : W) : TE := fun _ G _ Q => Q w G
@[simp] def eOp (r : R2) (a b : TE) : TE := fun γ G E Q => a γ G E fun x G1 => b γ G1 E fun y G2 => r x y G2 Q
@[simp] def eUn (r : R1) (a : TE) : TE := fun γ G E Q => a γ G E fun x G1 => r x G1 Q
/-- a op1 b op2 c, a op1 b op2 c op3 d -/
@[simp] def eCh (r r' : R2) (a b c : TE) : TE := fun γ G E Q => a γ G E fun x G1 => b γ G1 E fun y G2 => r x y G2 fun z G3 => match z with
  | .bl true => c γ G3 E fun w G4 => r' y w G4 Q
  | .bl false => Q (.bl false) G3
  | _ => False
@[simp] def eCh3 (r r' r'' : R2) (a b c d : TE) : TE := fun γ G E Q => a γ G E fun x G1 => b γ G1 E fun y G2 => r x y G2 fun z G3 => match z with
  | .bl true => c γ G3 E fun w G4 => r' y w G4 fun z' G5 => match z' with
    | .bl true => d γ G5 E fun w' G6 => r'' w w' G6 Q
    | .bl false => Q (.bl false) G5
    | _ => False
  | .bl false => Q (.bl false) G3
  | _ => False
@[simp] def eIf (t : TT) (a b : TE) : TE := fun γ G E Q => t γ G E fun k G1 => if k = true then a γ G1 E Q else b γ G1 E Q
/-- and, or, not as values (of bools) -/
@[simp] def eAnd (a b : TE) : TE := fun γ G E Q => a γ G E fun x G1 => match x with
  | .bl k => if k = true then b γ G1 E Q else Q (.bl false) G1
  | _ => False
@[simp] def eOr (a b : TE) : TE := fun γ G E Q => a γ G E fun x G1 => match x with
  | .bl k => if k = true then Q (.bl true) G1 else b γ G1 E Q
  | _ => False
@[simp] def eNot (a : TE) : TE := fun γ G E Q => a γ G E fun x G1 => match x with
  | .bl k => Q (.bl (!k)) G1
  | _ => False
@[simp] def aNil : TA := fun _ G _ Q => Q [] G
@[simp] def aCons (a : TE) (r : TA) : TA := fun γ G E Q => a γ G E fun x G1 => r γ G1 E fun xs G2 => Q (x :: xs) G2
/-- arguments that are all plain -/
@[simp] def aCs (ws : List W) : TA := fun _ G _ Q => Q ws G
@[simp] def eCall (sp : Sp) (a : TA) : TE := fun γ G E Q => a γ G E fun ws G1 => sp ws G1 Q E
/-- a built-in's call, by values -/
@[simp] def eBlt (r : List W → Gh → QV → Prop) (a : TA) : TE := fun γ G E Q => a γ G E fun ws G1 => r ws G1 Q
/-- o.m(..) of an own class -/
@[simp] def eMeth (C : Nat) (sp : Sp) (o : TE) (a : TA) : TE := fun γ G E Q => o γ G E fun x G1 => match x with
  | .ref p => match G1 p with
    | some (.ins C' _ _) => C' = C ∧ a γ G1 E fun ws G2 => sp (x :: ws) G2 Q E
    | _ => False
  | _ => False
/-- C(..) -/
@[simp] def eMake (C : Nat) (ns : List (List Nat)) (sp : Sp) (a : TA) : TE := fun γ G E Q => a γ G E fun ws G1 => ∀ p, G1 p = none → sp (.ref p :: ws) (up G1 p (.ins C ns [])) (fun v G2 => v = .non ∧ Q (.ref p) G2) E

def SZ : Nat := 16777216
@[simp] theorem SZ_eq : SZ = 16777216 := rfl

/-! tests -/
@[simp] def tV (a : TE) : TT := fun γ G E Q => a γ G E fun x G1 => match x with | .bl k => Q k G1 | _ => False
@[simp] def tAnd (a b : TT) : TT := fun γ G E Q => a γ G E fun k G1 => if k = true then b γ G1 E Q else Q false G1
@[simp] def tOr (a b : TT) : TT := fun γ G E Q => a γ G E fun k G1 => if k = true then Q true G1 else b γ G1 E Q
@[simp] def tNot (a : TT) : TT := fun γ G E Q => a γ G E fun k G1 => Q (!k) G1
/-- the truth of a value -/
@[simp] def truth (x : W) (G : Gh) (Q : Bool → Gh → Prop) : Prop := match x with
  | .non => Q false G
  | .bl k => Q k G
  | .int i => Q (i != 0) G
  | .str l => l.length ≤ SZ ∧ Q (!l.isEmpty) G
  | .tup ws => Q (!ws.isEmpty) G
  | .ref a => match G a with
    | some (.lst ws) => Q (!ws.isEmpty) G
    | some (.rdl ws) => Q (!ws.isEmpty) G
    | some (.dct kvs) => Q (!kvs.isEmpty) G
    | _ => False
  | .ty _ => False
  | .kl _ => False
  | .ktp ws => Q (!ws.isEmpty) G
@[simp] def tTru (a : TE) : TT := fun γ G E Q => a γ G E fun x G1 => truth x G1 Q

/-! ### statements -/
@[simp] def sNext : TS := fun D γ G => D.nx γ G
@[simp] def sSeq (t u : TS) : TS := fun D γ G => t { D with nx := u D } γ G
@[simp] def sBrk : TS := fun D γ G => D.bk γ G
@[simp] def sCnt : TS := fun D γ G => D.ct γ G
@[simp] def sDrop (e : TE) : TS := fun D γ G => e γ G (D.ex γ) fun _ G1 => D.nx γ G1
@[simp] def sRet (e : TE) : TS := fun D γ G => e γ G (D.ex γ) D.rt
@[simp] def sRetN : TS := fun D _ G => D.rt .non G
@[simp] def sIf (c : TT) (t u : TS) : TS := fun D γ G => c γ G (D.ex γ) fun k G1 => if k = true then t D γ G1 else u D γ G1
@[simp] def sSet (i : Nat) (e : TE) : TS := fun D γ G => e γ G (D.ex γ) fun x G1 => D.nx (put γ i x) G1
@[simp] def sAsg (e : TE) (g : TG) : TS := fun D γ G => e γ G (D.ex γ) fun x G1 => g x γ G1 D.nx
@[simp] def sAug (i : Nat) (r : R2) (e : TE) : TS := fun D γ G => match get γ i with
  | some x => e γ G (D.ex γ) fun y G1 => r x y G1 fun z G2 => D.nx (put γ i z) G2
  | none => False
@[simp] def sRaise (t : Fr → Gh → XQ → (W → List W → Gh → Prop) → Prop) : TS := fun D γ G => t γ G (D.ex γ) (D.ex γ)
@[simp] def gName (i : Nat) : TG := fun w γ G Q => Q (put γ i w) G
@[simp] def gNil : TGs := fun ws γ G Q => ws = [] ∧ Q γ G
@[simp] def gCons (t : TG) (u : TGs) : TGs := fun ws γ G Q => match ws with
  | [] => False
  | w :: r => t w γ G fun γ' G' => u r γ' G' Q
@[simp] def gTup (n : Nat) (t : TGs) : TG := fun w γ G Q => match w with
  | .tup ws => ws.length = n ∧ t ws γ G Q
  | .ref a => match G a with
    | some (.lst ws) => ws.length = n ∧ t ws γ G Q
    | _ => False
  | _ => False

/-! ### loops -/
abbrev It := Gh → Option (List W)
abbrev TI := Fr → Gh → XQ → (It → Gh → Prop) → Prop
def forL (J : It) (all : List W) (g : TG) (b : TS) (D : Ends) : List W → Fr → Gh → Prop
  | [], γ, G => J G = some all ∧ D.nx γ G
  | w :: r, γ, G => J G = some all ∧ g w γ G (fun γ' G' => b { D with nx := forL J all g b D r, ct := forL J all g b D r, bk := D.nx } γ' G')
@[simp] theorem forL_nil {J : It} {all : List W} {g : TG} {b : TS} {D : Ends} {γ : Fr} {G : Gh} : forL J all g b D [] γ G = (J G = some all ∧ D.nx γ G) := rfl
@[simp] theorem forL_cons {J : It} {all : List W} {g : TG} {b : TS} {D : Ends} {w : W} {r : List W} {γ : Fr} {G : Gh} : forL J all g b D (w :: r) γ G =
  (J G = some all ∧ g w γ G (fun γ' G' => b { D with nx := forL J all g b D r, ct := forL J all g b D r, bk := D.nx } γ' G')) := rfl
@[simp] def sFor (i : TI) (g : TG) (b : TS) : TS := fun D γ G => i γ G (D.ex γ) fun J G1 => ∃ all, J G1 = some all ∧ forL J all g b D all γ G1
def whileN (c : TT) (b : TS) (D : Ends) : Nat → Fr → Gh → Prop
  | 0, _, _ => False
  | n + 1, γ, G => c γ G (D.ex γ) fun k G1 => if k = true then b { D with nx := whileN c b D n, ct := whileN c b D n, bk := D.nx } γ G1 else D.nx γ G1
theorem whileN_succ {c : TT} {b : TS} {D : Ends} {n : Nat} {γ : Fr} {G : Gh} : whileN c b D (n + 1) γ G =
  c γ G (D.ex γ) fun k G1 => if k = true then b { D with nx := whileN c b D n, ct := whileN c b D n, bk := D.nx } γ G1 else D.nx γ G1 := rfl
@[simp] def sWhile (c : TT) (b : TS) : TS := fun D γ G => ∃ n, whileN c b D n γ G
/-- the items of a value that a for walks -/
@[simp] def items (x : W) : It := fun G => match x with
  | .tup ws => some ws
  | .kl ws => some ws
  | .ktp ws => some ws
  | .str l => some (l.map fun c => W.str [c])
  | .ref a => match G a with
    | some (.lst ws) => some ws
    | some (.rdl ws) => some ws
    | _ => none
  | _ => none
@[simp] def iVal (e : TE) : TI := fun γ G E R => e γ G E fun x G1 => (items x G1).isSome = true ∧ R (items x) G1
def rangeW (lo : Int) (n : Nat) : List W := (List.range n).map fun k : Nat => W.int (lo + (k : Int))
/-- a number that is small enough for range -/
def rngOk (j : Int) : Prop := -(2 ^ 62) ≤ j ∧ j < 2 ^ 62
@[simp] def iRng1 (a : TA) : TI := fun γ G E R => a γ G E fun ws G1 => match ws with
  | [.int j] => rngOk j ∧ R (fun _ => some (rangeW 0 j.toNat)) G1
  | _ => False
@[simp] def iRng2 (a : TA) : TI := fun γ G E R => a γ G E fun ws G1 => match ws with
  | [.int i, .int j] => rngOk i ∧ rngOk j ∧ R (fun _ => some (rangeW i (j - i).toNat)) G1
  | _ => False
/-- [e for g in i if t] -/
def lcL (J : It) (all : List W) (g : TG) (t : TT) (e : TE) (γ : Fr) (D : Nat) (E : XQ) (Q : QV) : List W → List W → Gh → Prop
  | [], acc, G => J G = some all ∧ G D = some (.lst acc) ∧ Q (.ref D) G
  | w :: r, acc, G => J G = some all ∧ G D = some (.lst acc) ∧ g w γ G fun γ2 G2 => t γ2 G2 E fun k G3 =>
      if k = true then e γ2 G3 E fun y G4 => G4 D = some (.lst acc) ∧ acc.length < SZ ∧ lcL J all g t e γ D E Q r (acc ++ [y]) (up G4 D (.lst (acc ++ [y])))
      else lcL J all g t e γ D E Q r acc G3
@[simp] def eLc (i : TI) (g : TG) (t : TT) (e : TE) (vs : List Nat) : TE := fun γ G E Q => i γ G E fun J G1 => ∀ D, G1 D = none → ∃ all, J (up G1 D (.lst [])) = some all ∧
  lcL J all g t e (wipe γ vs) D (fun _ _ _ => False) Q all [] (up G1 D (.lst []))
@[simp] def tYes : TT := fun _ G _ Q => Q true G

/-! ### operations by values -/
def b2n : Bool → Int
  | true => 1
  | false => 0
@[simp] theorem b2n_true : b2n true = 1 := rfl
@[simp] theorem b2n_false : b2n false = 0 := rfl
@[simp] def rAdd : R2 := fun x y G Q => match x with
  | .int i => (match y with | .int j => Q (.int (i + j)) G | .bl b => Q (.int (i + b2n b)) G | _ => False)
  | .str a => (match y with | .str b => a.length + b.length ≤ SZ ∧ Q (.str (a ++ b)) G | _ => False)
  | .tup a => (match y with | .tup b => a.length + b.length ≤ SZ ∧ Q (.tup (a ++ b)) G | _ => False)
  | .ref a => (match y with
    | .ref b => (match G a with
      | some (.lst xs) => (match G b with
        | some (.lst ys) => xs.length + ys.length ≤ SZ ∧ ∀ p, G p = none → Q (.ref p) (up G p (.lst (xs ++ ys)))
        | _ => False)
      | _ => False)
    | _ => False)
  | _ => False
@[simp] def rSub : R2 := fun x y G Q => match x with
  | .int i => (match y with | .int j => Q (.int (i - j)) G | _ => False)
  | _ => False
def mulOk (i j : Int) : Prop := (-(2 ^ 64) < i ∧ i < 2 ^ 64) ∨ (-(2 ^ 64) < j ∧ j < 2 ^ 64)
@[simp] def rMul : R2 := fun x y G Q => match x with
  | .int i => (match y with | .int j => mulOk i j ∧ Q (.int (i * j)) G | _ => False)
  | .str a => (match y with | .int k => 1 ≤ k ∧ k < 1000000 ∧ a.length * k.toNat ≤ 16777216 ∧ Q (.str (List.replicate k.toNat a).flatten) G | _ => False)
  | _ => False
/-- by a positive divisor -/
@[simp] def rMod : R2 := fun x y G Q => match x with
  | .int i => (match y with | .int j => 0 < j ∧ Q (.int (i % j)) G | _ => False)
  | _ => False
@[simp] def rDiv : R2 := fun x y G Q => match x with
  | .int i => (match y with | .int j => 0 < j ∧ j < 1073741824 ∧ Q (.int (i / j)) G | _ => False)
  | _ => False
@[simp] def rNeg : R1 := fun x G Q => match x with | .int i => Q (.int (-i)) G | _ => False
@[simp] def rLt : R2 := fun x y G Q => match x with
  | .int i => (match y with | .int j => Q (.bl (decide (i < j))) G | _ => False)
  | .str a => (match y with | .str b => Q (.bl (decide (a < b))) G | _ => False)
  | _ => False
@[simp] def rLe : R2 := fun x y G Q => match x with
  | .int i => (match y with | .int j => Q (.bl (decide (i ≤ j))) G | _ => False)
  | .str a => (match y with | .str b => Q (.bl (!decide (b < a))) G | _ => False)
  | _ => False
@[simp] def rGt : R2 := fun x y G Q => match x with
  | .int i => (match y with | .int j => Q (.bl (decide (j < i))) G | _ => False)
  | _ => False
@[simp] def rGe : R2 := fun x y G Q => match x with
  | .int i => (match y with | .int j => Q (.bl (decide (j ≤ i))) G | _ => False)
  | _ => False
@[simp] def rIadd : R2 := fun x y G Q => match x with
  | .int i => (match y with | .int j => Q (.int (i + j)) G | _ => False)
  | .str a => (match y with | .str b => a.length + b.length ≤ SZ ∧ Q (.str (a ++ b)) G | _ => False)
  | _ => False
/-- plain data, not too deep -/
def okD : Nat → W → Bool
  | _, .non => true
  | _, .bl _ => true
  | _, .int _ => true
  | _, .str l => l.all fun c => decide (c < 1114112)
  | n + 1, .tup ws => ws.all (okD n)
  | _, _ => false
@[simp] theorem okD_non {n : Nat} : okD n .non = true := by cases n <;> rfl
@[simp] theorem okD_bl {n : Nat} {b : Bool} : okD n (.bl b) = true := by cases n <;> rfl
@[simp] theorem okD_int {n : Nat} {b : Int} : okD n (.int b) = true := by cases n <;> rfl
theorem okD_str {n : Nat} {l : List Nat} : okD n (.str l) = l.all fun c => decide (c < 1114112) := by cases n <;> rfl
@[simp] theorem okD_tup {n : Nat} {ws : List W} : okD (n + 1) (.tup ws) = ws.all (okD n) := rfl
mutual
def weq : W → W → Bool
  | .non, y => (match y with | .non => true | _ => false)
  | .bl a, y => (match y with | .bl b => a == b | .int j => decide (b2n a = j) | _ => false)
  | .int i, y => (match y with | .bl b => decide (i = b2n b) | .int j => decide (i = j) | _ => false)
  | .str a, y => (match y with | .str b => decide (a = b) | _ => false)
  | .tup a, y => (match y with | .tup b => weqL a b | _ => false)
  | .ref _, _ => false
  | .ty _, _ => false
  | .kl _, _ => false
  | .ktp _, _ => false
def weqL : List W → List W → Bool
  | [], ys => ys.isEmpty
  | x :: xs, ys => (match ys with | [] => false | y :: ys => weq x y && weqL xs ys)
end
def DP : Nat := 60
/-- the answer of == by the heap, where there is a rule -/
@[simp] def eqA (x y : W) (G : Gh) (Q : Bool → Prop) : Prop := match x with
  | .ref a => (match y with
    | .ref b => (match G a with
      | some (.lst xs) => (match G b with
        | some (.lst ys) => xs.all (okD DP) = true ∧ ys.all (okD DP) = true ∧ Q (weqL xs ys)
        | _ => False)
      | _ => False)
    | _ => False)
  | .ty _ => False
  | .ktp a => (match y with | .ktp b => a.all (okD DP) = true ∧ b.all (okD DP) = true ∧ Q (weqL a b) | _ => False)
  | .int i => (match y with | .int j => Q (decide (i = j)) | .ref _ => False | .ty _ => False | y => okD DP y = true ∧ Q (weq (.int i) y))
  | .str a => (match y with | .str b => Q (decide (a = b)) | .ref _ => False | .ty _ => False | y => okD DP (.str a) = true ∧ okD DP y = true ∧ Q (weq (.str a) y))
  | x => (match y with | .ref _ => False | .ty _ => False | y => okD DP x = true ∧ okD DP y = true ∧ Q (weq x y))
@[simp] def rEq : R2 := fun x y G Q => eqA x y G fun k => Q (.bl k) G
@[simp] def rNe : R2 := fun x y G Q => eqA x y G fun k => Q (.bl (!k)) G
def isN : W → Bool
  | .non => true
  | _ => false
@[simp] theorem isN_non : isN .non = true := rfl
@[simp] theorem isN_bl {b : Bool} : isN (.bl b) = false := rfl
@[simp] theorem isN_int {b : Int} : isN (.int b) = false := rfl
@[simp] theorem isN_str {b : List Nat} : isN (.str b) = false := rfl
@[simp] theorem isN_ref {b : Nat} : isN (.ref b) = false := rfl
@[simp] theorem isN_tup {b : List W} : isN (.tup b) = false := rfl
@[simp] theorem isN_ktp {b : List W} : isN (.ktp b) = false := rfl
/-- x is None; x is not None; x is True, False -/
@[simp] def rIs : R2 := fun x y G Q => match y with
  | .non => Q (.bl (isN x)) G
  | _ => False
@[simp] def rIsNot : R2 := fun x y G Q => match y with
  | .non => Q (.bl (!isN x)) G
  | _ => False
/-- neither a tuple nor an object -/
def flatW : W → Bool
  | .non => true
  | .bl _ => true
  | .int _ => true
  | .str _ => true
  | _ => false
@[simp] def rInA (x y : W) (G : Gh) (Q : Bool → Prop) : Prop := match y with
  | .str s => (match x with | .str [c] => Q (decide (c ∈ s)) | _ => False)
  | .tup ws => ((flatW x = true ∧ ws.all flatW = true) ∨ (okD DP x = true ∧ ws.all (okD DP) = true)) ∧ Q (ws.any fun w => weq w x)
  | .ktp ws => (flatW x = true ∧ ws.all flatW = true) ∧ Q (ws.any fun w => weq w x)
  | .ref a => (match G a with
    | some (.lst ws) => okD DP x = true ∧ ws.all (okD DP) = true ∧ Q (ws.any fun w => weq w x)
    | _ => False)
  | _ => False
@[simp] def rIn : R2 := fun x y G Q => rInA x y G fun k => Q (.bl k) G
@[simp] def rNotIn : R2 := fun x y G Q => rInA x y G fun k => Q (.bl (!k)) G

/-- an index as a place among n -/
def ixn (n : Nat) (i : Int) : Option Nat :=
  if 0 ≤ i then (if i.toNat < n then some i.toNat else none) else (if (-i).toNat ≤ n then some (n - (-i).toNat) else none)
def at_ {α : Type} (xs : List α) (i : Int) : Option α := match ixn xs.length i with
  | some j => xs[j]?
  | none => none
/-! dicts -/
mutual
def keq : W → W → Bool
  | .int i, y => (match y with | .int j => decide (i = j) | _ => false)
  | .str a, y => (match y with | .str b => decide (a = b) | _ => false)
  | .tup a, y => (match y with | .tup b => keqL a b | _ => false)
  | .non, _ => false
  | .bl _, _ => false
  | .ref _, _ => false
  | .ty _, _ => false
  | .kl _, _ => false
  | .ktp _, _ => false
def keqL : List W → List W → Bool
  | [], ys => ys.isEmpty
  | x :: xs, ys => (match ys with | [] => false | y :: ys => keq x y && keqL xs ys)
end
def look : List (W × W) → W → Option W
  | [], _ => none
  | p :: r, k => if keq p.1 k = true then some p.2 else look r k
def has (kvs : List (W × W)) (k : W) : Bool := (look kvs k).isSome
def putD (kvs : List (W × W)) (k v : W) : List (W × W) :=
  if has kvs k = true then kvs.map (fun p => if keq p.1 k = true then (p.1, v) else p) else kvs ++ [(k, v)]
def dropD (kvs : List (W × W)) (k : W) : List (W × W) := kvs.filter fun p => !keq p.1 k
/-- a plain key -/
def key1 : W → Bool
  | .int _ => true
  | .str _ => true
  | _ => false
@[simp] theorem key1_int {i : Int} : key1 (.int i) = true := rfl
@[simp] theorem key1_str {i : List Nat} : key1 (.str i) = true := rfl

@[simp] def rIx : R2 := fun x y G Q => match x with
  | .str s => (match y with | .int i => s.length ≤ SZ ∧ (match at_ s i with | some c => Q (.str [c]) G | none => False) | _ => False)
  | .tup ws => (match y with | .int i => (match at_ ws i with | some w => Q w G | none => False) | _ => False)
  | .ktp ws => (match y with | .int i => (match at_ ws i with | some w => Q w G | none => False) | _ => False)
  | .ref a => (match G a with
    | some (.lst ws) => (match y with | .int i => (match at_ ws i with | some w => Q w G | none => False) | _ => False)
    | some (.rdl ws) => (match y with | .int i => (match at_ ws i with | some w => Q w G | none => False) | _ => False)
    | _ => False)
  | _ => False
/-- d[k] of a dict -/
@[simp] def rDget : R2 := fun x y G Q => match x with
  | .ref a => (match G a with
    | some (.dct kvs) => key1 y = true ∧ (match look kvs y with | some v => Q v G | none => False)
    | _ => False)
  | _ => False
/-- d[k] = v: first v, then d, then k -/
@[simp] def sDput (v d k : TE) : TS := fun D γ G => v γ G (D.ex γ) fun z G1 => d γ G1 (D.ex γ) fun x G2 => k γ G2 (D.ex γ) fun y G3 => match x with
  | .ref a => (match G3 a with
    | some (.dct kvs) => key1 y = true ∧ kvs.length < SZ ∧ D.nx γ (up G3 a (.dct (putD kvs y z)))
    | _ => False)
  | _ => False
/-- a display of a dict with plain keys -/
def pairsD : List (TE × TE) → Fr → Gh → XQ → (List (W × W) → Gh → Prop) → Prop
  | [], _, G, _, Q => Q [] G
  | (k, v) :: r, γ, G, E, Q => k γ G E fun x G1 => v γ G1 E fun y G2 => pairsD r γ G2 E fun ps G3 => Q ((x, y) :: ps) G3
def mergeD (kvs : List (W × W)) : List (W × W) → List (W × W)
  | [] => kvs
  | p :: r => mergeD (putD kvs p.1 p.2) r
@[simp] def eDnew : TE := fun _ G _ Q => ∀ p, G p = none → Q (.ref p) (up G p (.dct []))
@[simp] def eDict (ps : List (TE × TE)) : TE := fun γ G E Q => ∀ p, G p = none → pairsD ps γ (up G p (.dct [])) E fun kvs G2 =>
  G2 p = some (.dct []) ∧ kvs.all (fun q => key1 q.1) = true ∧ kvs.length ≤ 15 ∧ Q (.ref p) (up G2 p (.dct (mergeD [] kvs)))

/-! lists, tuples, slices -/
@[simp] def eTup (a : TA) : TE := fun γ G E Q => a γ G E fun ws G1 => ws.length ≤ SZ ∧ Q (.tup ws) G1
@[simp] def eLst (a : TA) : TE := fun γ G E Q => a γ G E fun ws G1 => ws.length ≤ SZ ∧ ∀ p, G1 p = none → Q (.ref p) (up G1 p (.lst ws))
/-- a slice's bound as a place among n -/
def clip (n : Nat) (i : Int) : Nat := if 0 ≤ i then min i.toNat n else n - (-i).toNat
abbrev TO := Fr → Gh → XQ → (Option Int → Gh → Prop) → Prop
@[simp] def oNo : TO := fun _ G _ Q => Q none G
@[simp] def oPart (a : TE) : TO := fun γ G E Q => a γ G E fun x G1 => match x with | .int i => Q (some i) G1 | _ => False
def lo_ (n : Nat) : Option Int → Nat
  | none => 0
  | some i => clip n i
def hi_ (n : Nat) : Option Int → Nat
  | none => n
  | some i => clip n i
def cut {α : Type} (xs : List α) (lo hi : Option Int) : List α := (xs.drop (lo_ xs.length lo)).take (hi_ xs.length hi - lo_ xs.length lo)
@[simp] def rSl (x : W) (lo hi : Option Int) (G : Gh) (Q : QV) : Prop := match x with
  | .str s => s.length ≤ SZ ∧ Q (.str (cut s lo hi)) G
  | .tup ws => Q (.tup (cut ws lo hi)) G
  | .ref a => (match G a with
    | some (.lst ws) => ∀ p, G p = none → Q (.ref p) (up G p (.lst (cut ws lo hi)))
    | _ => False)
  | _ => False
@[simp] def eSl (e : TE) (lo hi : TO) : TE := fun γ G E Q => e γ G E fun x G1 => lo γ G1 E fun i G2 => hi γ G2 E fun j G3 => rSl x i j G3 Q
/-! built-ins -/
@[simp] def bLen (ws : List W) (G : Gh) (Q : QV) : Prop := match ws with
  | [.str s] => s.length ≤ SZ ∧ Q (.int s.length) G
  | [.tup t] => Q (.int t.length) G
  | [.ktp t] => Q (.int t.length) G
  | [.ref a] => (match G a with
    | some (.lst t) => Q (.int t.length) G
    | some (.rdl t) => Q (.int t.length) G
    | some (.dct t) => Q (.int t.length) G
    | some (.dtt t) => Q (.int t.length) G
    | _ => False)
  | _ => False
@[simp] def bAbs (ws : List W) (G : Gh) (Q : QV) : Prop := match ws with
  | [.int i] => Q (.int i.natAbs) G
  | _ => False
/-- a decimal figure; the number that a row of figures writes -/
def isDg (c : Nat) : Bool := decide (48 ≤ c) && decide (c ≤ 57)
def digVal (s : List Nat) : Nat := s.foldl (fun acc c => acc * 10 + (c - 48)) 0
@[simp] def bInt (ws : List W) (G : Gh) (Q : QV) : Prop := match ws with
  | [.int i] => Q (.int i) G
  | [.bl b] => Q (.int (b2n b)) G
  | [.str s] => s ≠ [] ∧ s.all isDg = true ∧ s.length ≤ 640 ∧ Q (.int (digVal s : Nat)) G
  | _ => False
@[simp] def bMin (ws : List W) (G : Gh) (Q : QV) : Prop := match ws with
  | [.int i, .int j] => Q (.int (min i j)) G
  | _ => False
@[simp] def bMax (ws : List W) (G : Gh) (Q : QV) : Prop := match ws with
  | [.int i, .int j] => Q (.int (max i j)) G
  | _ => False
/-- the intsW of a list of intsW -/
def intsW : List W → Option (List Int)
  | [] => some []
  | .int i :: r => (intsW r).map (i :: ·)
  | _ :: _ => none
@[simp] theorem intsW_map (ns : List Int) : intsW (ns.map W.int) = some ns := by
  induction ns with
  | nil => rfl
  | cons n r ih => rw [List.map_cons, intsW, ih]; rfl
@[simp] def bSum (ws : List W) (G : Gh) (Q : QV) : Prop := match ws with
  | [.ref a] => (match G a with
    | some (.lst t) => (match intsW t with | some ns => Q (.int ns.sum) G | none => False)
    | _ => False)
  | _ => False
/-- the name of a value's class -/
@[simp] def clsN (x : W) (G : Gh) : Option String := match x with
  | .non => some "NoneType"
  | .bl _ => some "bool"
  | .int _ => some "int"
  | .str _ => some "str"
  | .tup _ => some "tuple"
  | .ktp _ => some "tuple"
  | .kl _ => none
  | .ref a => (match G a with
    | some (.lst _) => some "list"
    | some (.rdl _) => some "list"
    | some (.dct _) => some "dict"
    | some (.dtt _) => some "dict"
    | some (.rdc _) => some "dict"
    | _ => none)
  | .ty _ => none
@[simp] def isSub (a b : String) : Bool := a == b || (a == "bool" && b == "int")
def tyN : List String := ["int", "bool", "str", "tuple", "list", "dict"]
@[simp] def bIsi (ws : List W) (G : Gh) (Q : QV) : Prop := match ws with
  | [x, .ty n] => (match clsN x G with | some c => n ∈ tyN ∧ Q (.bl (isSub c n)) G | none => False)
  | _ => False
/-! methods -/
@[simp] def mAppend (x : W) (ws : List W) (G : Gh) (Q : QV) : Prop := match x with
  | .ref a => (match G a with
    | some (.lst t) => (match ws with | [w] => t.length < SZ ∧ Q .non (up G a (.lst (t ++ [w]))) | _ => False)
    | _ => False)
  | _ => False
/-- the receiver of a built-in class's method -/
@[simp] def tyW (T : String) (x : W) (G : Gh) : Prop := match x with
  | .str _ => T = "str"
  | .ref a => (match G a with
    | some (.lst _) => T = "list"
    | some (.rdl _) => T = "list"
    | some (.dct _) => T = "dict"
    | some (.dtt _) => T = "dict"
    | _ => False)
  | _ => False
/-- a built-in's method, by values -/
@[simp] def eBm (T : String) (r : W → List W → Gh → QV → Prop) (o : TE) (a : TA) : TE := fun γ G E Q => o γ G E fun x G1 => tyW T x G1 ∧ a γ G1 E fun ws G2 => r x ws G2 Q
/-- a text cut at a sign -/
def consH (d : Nat) : List (List Nat) → List (List Nat)
  | [] => [[d]]
  | p :: q => (d :: p) :: q
def splitN (c : Nat) : List Nat → List (List Nat)
  | [] => [[]]
  | d :: r => if d = c then [] :: splitN c r else consH d (splitN c r)
theorem splitN_cons (c d : Nat) (r : List Nat) : splitN c (d :: r) = if d = c then [] :: splitN c r else consH d (splitN c r) := rfl
theorem splitN_ne (c : Nat) (l : List Nat) : splitN c l ≠ [] := by
  cases l with
  | nil => exact fun z => nomatch z
  | cons e l =>
    rw [splitN_cons]
    split
    · exact fun z => nomatch z
    · cases splitN c l <;> exact fun z => nomatch z
def joinN (s : List Nat) : List (List Nat) → List Nat
  | [] => []
  | [p] => p
  | p :: q :: r => p ++ s ++ joinN s (q :: r)
/-- the texts of a list of texts -/
def strsW : List W → Option (List (List Nat))
  | [] => some []
  | .str i :: r => (strsW r).map (i :: ·)
  | _ :: _ => none
@[simp] theorem strsW_map (ns : List (List Nat)) : strsW (ns.map W.str) = some ns := by
  induction ns with
  | nil => rfl
  | cons n r ih => rw [List.map_cons, strsW, ih]; rfl
@[simp] def mSplit (x : W) (ws : List W) (G : Gh) (Q : QV) : Prop := match x with
  | .str s => (match ws with | [.str [c]] => c < 256 ∧ s.length + 2 ≤ SZ ∧ ∀ p, G p = none → Q (.ref p) (up G p (.lst ((splitN c s).map W.str))) | _ => False)
  | _ => False
@[simp] def mCount (x : W) (ws : List W) (G : Gh) (Q : QV) : Prop := match x with
  | .str s => (match ws with | [.str [c]] => Q (.int (s.count c : Nat)) G | _ => False)
  | _ => False
/-- the length of texts joined, with room to spare -/
def joinLen (s : List Nat) (ps : List (List Nat)) : Nat := (ps.map (·.length)).sum + s.length * ps.length
@[simp] def mJoin (x : W) (ws : List W) (G : Gh) (Q : QV) : Prop := match x with
  | .str s => (match ws with
    | [.ref a] => (match G a with
      | some (.lst t) => (match strsW t with | some ps => joinLen s ps ≤ SZ ∧ Q (.str (joinN s ps)) G | none => False)
      | _ => False)
    | [.tup t] => (match strsW t with | some ps => joinLen s ps ≤ SZ ∧ Q (.str (joinN s ps)) G | none => False)
    | _ => False)
  | _ => False
end L3

end
section
/-! L3Rep: when an object of the top is a constant. -/
namespace L3
open PySem PySem.Spec PyProof.Rows L2
mutual
def repB (K : PySem.W.Frag) : Nat → W → Value → Bool
  | _, .non, u => (match u with | .none => true | _ => false)
  | _, .bl b, u => (match u with | .bool c => b == c | _ => false)
  | _, .int i, u => (match u with | .int j _ => i == j | _ => false)
  | _, .str l, u => (match u with | .str x _ => decide (x.cps.toList = l) | _ => false)
  | _, .ref a, u => (match u with | .ref b => a == b | _ => false)
  | n + 1, .ktp ws, u => (match u with
    | .ref a => (match K.lookup a with
      | some ⟨.type "tuple", _, .seq its _, _⟩ => decide (its.size ≤ sizeLine) && repBL K n ws its.toList
      | _ => false)
    | _ => false)
  | _, _, _ => false
def repBL (K : PySem.W.Frag) : Nat → List W → List Value → Bool
  | _, [], us => us.isEmpty
  | n, w :: ws, us => (match us with
    | u :: r => repB K n w u && repBL K n ws r
    | [] => false)
end
end L3

end
section
set_option maxHeartbeats 0
/-! L3HeadA: what the top of a large text leaves, told by one run: facts by names. -/
namespace L3
open PySem PySem.Spec PyProof.Rows L2 He
/-! ### what the wanted names reach -/
def hdDval (es : List DictEntry) (x : Str) : Option Addr := match es.find? (fun e => match e.key with | .str y _ => decide (y = x) | _ => false) with
  | some e => (match e.val with | .ref a => some a | _ => none)
  | none => none
def pickX (g : Addr → Option Obj) (xs : List Str) : List Addr := match g mainGlobals with
  | some ⟨_, _, .dict es _, _⟩ => xs.filterMap (hdDval es.toList)
  | _ => []
def refsN (o : Obj) : List Addr := match o.data with
  | .dict es _ => es.toList.flatMap fun e => refV e.val
  | .func fd => refV fd.code ++ refV fd.defaults
  | .cls cd => cd.ns :: cd.mro.flatMap refV
  | _ => []
def growN (g : Addr → Option Obj) (as : List Addr) : List Addr := (as ++ as.flatMap fun a => match g a with
  | some o => refsN o
  | none => []).eraseDups
/-- (to look at: where the wanted things stand) -/
def growX (g : Addr → Option Obj) : Nat → List Addr → List Addr
  | 0, as => as
  | n + 1, as => growX g n (growN g as)
def hdEnc : List Nat → Nat
  | [] => 1
  | a :: r => 65536 * hdEnc r + a
def frX (xs : List Addr) (g : Addr → Option Obj) : PySem.W.Frag := frG g (mainGlobals :: xs)
/-! ### facts -/
inductive Fx where
  | glo (x : Str)
  | free (x : Str)
  | exc (x : Str) (b : String)
  | excX (x : Str)
  | kitO (c b : Str)
  | kitT (c : Str) (b : String)
  | xm (c b : Str)
  | nx (c b : Str)
  | kst (x : Str) (w : W)
  | cls (x : Str)
  | fld (x f : Str)
  | meth (x m : Str)
  | keep (p : Str × Option Str)
def hdEqV (a b : Option Value) : Bool := decide (a = b)
def hdEqB (a : Option Bool) : Bool := decide (a = some true)
def hdUa (K : PySem.W.Frag) (x : Str) : Value := match PySem.W.nsIn K mainGlobals x with
  | some (some u) => u
  | _ => .none
def hdExB (b : String) : List Value := [.type b, .type "Exception", .type "BaseException", .type "object"]
def hdAll : List Bool → Bool
  | [] => true
  | b :: r => b && hdAll r
def Fx.ok (K : PySem.W.Frag) : Fx → Bool
  | .glo x => eqO (PySem.W.nsIn K mainGlobals x) (some (some (.ref (ga K x))))
  | .free x => eqO (PySem.W.nsIn K mainGlobals x) (some none)
  | .exc x b => hdAll [eqO (PySem.W.nsIn K mainGlobals x) (some (some (.ref (ga K x)))), PySem.W.excIn K (ga K x) (hdExB b) (b ++ ".__new__"), PySem.W.keepIn K (.ref (ga K x)), hdEqB (PySem.W.subIn K (.ref (ga K x)) (.type "BaseException")), hdEqV (PySem.W.typeIn K (.ref (ga K x))) (some (.type "type")), hdEqB (PySem.W.exmOne K (.ref (ga K x)) (.ref (ga K x)))]
  | .excX x => hdAll [eqO (PySem.W.findIn K (.ref (ga K x)) "__getattribute__") (some (some (.builtin "BaseException.__getattribute__"))), eqO (PySem.W.findIn K (.ref (ga K x)) "__getattr__") (some none), hdEqB (PySem.W.subIn K (.ref (ga K x)) (.type "BaseException")), PySem.W.hasDictIn K (ga K x),
      eqO (PySem.W.findIn K (.ref (ga K x)) "__class__") (some (some (.builtin "object.__class__"))), eqO (PySem.W.specialIn K (.builtin "object.__class__") "__get__") (some (some (.builtin "getset_descriptor.__get__"))), hdEqB (PySem.W.takesIn K (.builtin "object.__class__")), hdEqB (PySem.W.mroIn K (ga K x) (.type "object"))]
  | .kitO c b => hdEqB (PySem.W.kitOne K (.ref (ga K c)) (.ref (ga K b)))
  | .kitT c b => hdEqB (PySem.W.kitOne K (.ref (ga K c)) (.type b))
  | .xm c b => decide (PySem.W.exmOne K (.ref (ga K c)) (.ref (ga K b)) = some (decide (ga K c = ga K b)))
  | .nx c b => !decide (ga K c = ga K b)
  | .kst x w => eqO (PySem.W.nsIn K mainGlobals x) (some (some (hdUa K x))) && repB K 60 w (hdUa K x)
  | .cls x => hdAll [eqO (PySem.W.nsIn K mainGlobals x) (some (some (.ref (ga K x)))), PySem.W.plainGet K (ga K x) Str.empty, PySem.W.hasDictIn K (ga K x), PySem.W.plainOver K (ga K x), eqO (PySem.W.findIn K (.ref (ga K x)) "__setattr__") (some (some (.builtin "object.__setattr__"))), PySem.W.makesIn K (ga K x), PySem.W.keepIn K (.ref (ga K x))]
  | .fld x f => eqO (PySem.W.findIn K (.ref (ga K x)) f) (some none)
  | .meth x m => hdAll [eqO (PySem.W.findIn K (.ref (ga K x)) m) (some (some (.ref (fAd K (x, some m))))), PySem.W.isFn K (.ref (fAd K (x, some m)))]
  | .keep p => PySem.W.keepIn K (.ref (fAd K p))
theorem hdAnd {a b : Bool} (h : (a && b) = true) : a = true ∧ b = true := Bool.and_eq_true_iff.mp h
theorem hdEqB_ok {a : Option Bool} (h : hdEqB a = true) : a = some true := of_decide_eq_true h
theorem hdEqV_ok {a b : Option Value} (h : hdEqV a b = true) : a = b := of_decide_eq_true h
section
variable {K : PySem.W.Frag}
theorem fx_glo {x : Str} (c : (Fx.glo x).ok K = true) : PySem.W.nsIn K mainGlobals x = some (some (.ref (ga K x))) := eqO_ok c
theorem fx_free {x : Str} (c : (Fx.free x).ok K = true) : PySem.W.nsIn K mainGlobals x = some none := eqO_ok c
theorem fx_exc {x : Str} {b : String} (c : (Fx.exc x b).ok K = true) : PySem.W.nsIn K mainGlobals x = some (some (.ref (ga K x))) ∧ PySem.W.excIn K (ga K x) (hdExB b) (b ++ ".__new__") = true ∧ PySem.W.keepIn K (.ref (ga K x)) = true ∧ PySem.W.subIn K (.ref (ga K x)) (.type "BaseException") = some true ∧ PySem.W.typeIn K (.ref (ga K x)) = some (.type "type") ∧ PySem.W.exmOne K (.ref (ga K x)) (.ref (ga K x)) = some true := by
  obtain ⟨h1, c⟩ := hdAnd c
  obtain ⟨h2, c⟩ := hdAnd c
  obtain ⟨h3, c⟩ := hdAnd c
  obtain ⟨h4, c⟩ := hdAnd c
  obtain ⟨h5, c⟩ := hdAnd c
  obtain ⟨h6, c⟩ := hdAnd c
  exact ⟨eqO_ok h1, h2, h3, hdEqB_ok h4, hdEqV_ok h5, hdEqB_ok h6⟩
theorem fx_excX {x : Str} (c : (Fx.excX x).ok K = true) : PySem.W.findIn K (.ref (ga K x)) "__getattribute__" = some (some (.builtin "BaseException.__getattribute__")) ∧ PySem.W.findIn K (.ref (ga K x)) "__getattr__" = some none ∧ PySem.W.subIn K (.ref (ga K x)) (.type "BaseException") = some true ∧ PySem.W.hasDictIn K (ga K x) = true ∧
    PySem.W.findIn K (.ref (ga K x)) "__class__" = some (some (.builtin "object.__class__")) ∧ PySem.W.specialIn K (.builtin "object.__class__") "__get__" = some (some (.builtin "getset_descriptor.__get__")) ∧ PySem.W.takesIn K (.builtin "object.__class__") = some true ∧ PySem.W.mroIn K (ga K x) (.type "object") = some true := by
  obtain ⟨h1, c⟩ := hdAnd c
  obtain ⟨h2, c⟩ := hdAnd c
  obtain ⟨h3, c⟩ := hdAnd c
  obtain ⟨h4, c⟩ := hdAnd c
  obtain ⟨h5, c⟩ := hdAnd c
  obtain ⟨h6, c⟩ := hdAnd c
  obtain ⟨h7, c⟩ := hdAnd c
  obtain ⟨h8, c⟩ := hdAnd c
  exact ⟨eqO_ok h1, eqO_ok h2, hdEqB_ok h3, h4, eqO_ok h5, eqO_ok h6, hdEqB_ok h7, hdEqB_ok h8⟩
theorem fx_kitO {x b : Str} (c : (Fx.kitO x b).ok K = true) : PySem.W.kitOne K (.ref (ga K x)) (.ref (ga K b)) = some true := hdEqB_ok c
theorem fx_kitT {x : Str} {b : String} (c : (Fx.kitT x b).ok K = true) : PySem.W.kitOne K (.ref (ga K x)) (.type b) = some true := hdEqB_ok c
theorem fx_xm {x b : Str} (c : (Fx.xm x b).ok K = true) : PySem.W.exmOne K (.ref (ga K x)) (.ref (ga K b)) = some (decide (ga K x = ga K b)) := of_decide_eq_true c
theorem fx_nx {x b : Str} (c : (Fx.nx x b).ok K = true) : decide (ga K x = ga K b) = false := by
  have h : (!decide (ga K x = ga K b)) = true := c
  cases e : decide (ga K x = ga K b) with
  | false => rfl
  | true => rw [e] at h; cases h
theorem fx_kst {x : Str} {w : W} (c : (Fx.kst x w).ok K = true) : PySem.W.nsIn K mainGlobals x = some (some (hdUa K x)) ∧ repB K 60 w (hdUa K x) = true := ⟨eqO_ok (hdAnd c).1, (hdAnd c).2⟩
theorem fx_cls {x : Str} (c : (Fx.cls x).ok K = true) : PySem.W.nsIn K mainGlobals x = some (some (.ref (ga K x))) ∧ PySem.W.plainGet K (ga K x) Str.empty = true ∧ PySem.W.hasDictIn K (ga K x) = true ∧ PySem.W.plainOver K (ga K x) = true ∧
    PySem.W.findIn K (.ref (ga K x)) "__setattr__" = some (some (.builtin "object.__setattr__")) ∧ PySem.W.makesIn K (ga K x) = true ∧ PySem.W.keepIn K (.ref (ga K x)) = true := by
  obtain ⟨h1, c⟩ := hdAnd c
  obtain ⟨h2, c⟩ := hdAnd c
  obtain ⟨h3, c⟩ := hdAnd c
  obtain ⟨h4, c⟩ := hdAnd c
  obtain ⟨h5, c⟩ := hdAnd c
  obtain ⟨h6, c⟩ := hdAnd c
  obtain ⟨h7, c⟩ := hdAnd c
  exact ⟨eqO_ok h1, h2, h3, h4, eqO_ok h5, h6, h7⟩
theorem fx_fld {x f : Str} (c : (Fx.fld x f).ok K = true) : PySem.W.findIn K (.ref (ga K x)) f = some none := eqO_ok c
theorem fx_meth {x m : Str} (c : (Fx.meth x m).ok K = true) : PySem.W.findIn K (.ref (ga K x)) m = some (some (.ref (fAd K (x, some m)))) ∧ PySem.W.isFn K (.ref (fAd K (x, some m))) = true := by
  obtain ⟨h1, c⟩ := hdAnd c
  obtain ⟨h2, c⟩ := hdAnd c
  exact ⟨eqO_ok h1, h2⟩
theorem fx_keep {p : Str × Option Str} (c : (Fx.keep p).ok K = true) : PySem.W.keepIn K (.ref (fAd K p)) = true := c
end
/-! ### the Hook -/
def obsX (fa : List Fx) (fn : List FnD) (K : PySem.W.Frag) : Al := ((fa.all fun f => f.ok K) && fn.all fun d => (Fa.code d.at_ d.qual).ok K, fn.map fun d => fnObs K d.at_)
def SaysX (fa : List Fx) (fn : List FnD) (K : PySem.W.Frag) : Prop := obsX fa fn K = valE fn
def hookX (xs : List Addr) (fa : List Fx) (fn : List FnD) : PySem.W.Hook where
  α := Al
  obs := fun s => obsX fa fn (frX xs s.heap.get?)
  val := fun _ => valE fn
  says := fun _ h => ∃ K : PySem.W.Frag, K.In h ∧ SaysX fa fn K
  of := fun _ _ e => ⟨_, frG_in, e⟩
  keeps := fun _ _ _ ⟨K, hK, c⟩ k => ⟨K, PySem.W.Frag.In.keeps hK k, c⟩
def obsT (xs : List Addr) (fa : List Fx) (fn : List FnD) (s : PySem.W.SharedT) : Al := obsX fa fn (frX xs (HandSHeadRun.getT s))
theorem obsT_eq (xs : List Addr) (fa : List Fx) (fn : List FnD) (s : PySem.W.SharedT) : obsT xs fa fn s = (hookX xs fa fn).obs s.abs := by
  have e : HandSHeadRun.getT s = s.abs.heap.get? := funext fun a => HandSHeadRun.getT_eq s a
  show obsX fa fn (frX xs (HandSHeadRun.getT s)) = obsX fa fn (frX xs s.abs.heap.get?)
  rw [e]
/-- the run's end, and what is asked of it, one by one -/
noncomputable abbrev endX (r : PySem.W.OpenRow) (w : World) (os : OsState) : Option PySem.W.SharedT := HandSHeadRun.endF (HandSHeadRun.stepQ (HandSHeadRun.denQ HandSHeadRun.tabQ) r.prog w) 20000 r.prog w os
theorem run_parts {r : PySem.W.OpenRow} {q : Program} {xs : List Addr} {fa : List Fx} {fn : List FnD} {loose : List Str} {w : World}
    (h1 : ∀ os, (endX r w os).map (fun s => (HandSHeadRun.looksF r.prog (PySem.W.boot_heap w.params) s.abs, HandSHeadRun.seenQ q loose (importedModules r.prog.main.body) (fun s => PySem.W.xlAt q [] s && PySem.W.recOk r.toRowW.records s) s.abs)) = some (true, PySem.W.openGood q loose))
    (h2 : ∀ os, (endX r w os).map (obsT xs fa fn) = some (valE fn)) : HandSHeadRun.RunEq r q (hookX xs fa fn) (obsT xs fa fn) 20000 loose w := by
  intro os
  have a := h1 os
  have b := h2 os
  show (endX r w os).map _ = _
  cases e : endX r w os with
  | none => rw [e] at a; cases a
  | some s =>
    rw [e] at a b
    obtain ⟨a2, a3⟩ := Prod.mk.inj (Option.some.inj a)
    have b1 : obsT xs fa fn s = valE fn := Option.some.inj b
    refine congrArg some ?_
    show (_, _, obsT xs fa fn s) = (true, PySem.W.openGood q loose, valE fn)
    rw [b1]
    exact congr (congrArg Prod.mk a2) (congrArg (fun z => (z, valE fn)) a3)
section
variable {fa : List Fx} {fn : List FnD} {K : PySem.W.Frag}
theorem SaysX.fact (c : SaysX fa fn K) (i : Nat) {f : Fx} (h : fa[i]? = some f) : f.ok K = true := by
  have c1 := (hdAnd (show ((fa.all fun f => f.ok K) && fn.all fun d => (Fa.code d.at_ d.qual).ok K) = true from congrArg Prod.fst c)).1
  exact List.all_eq_true.mp c1 f (List.mem_of_getElem? h)
theorem SaysX.def_ (c : SaysX fa fn K) (i : Nat) {d : FnD} (h : fn[i]? = some d) :
    ∃ oc od osl kV doc pm an cdv ct, K.lookup (fAd K d.at_) = some ⟨oc, od, .func (PySem.W.fnOf d.name d.qual d.params d.body d.scope .none kV doc pm an cdv ct), osl⟩ ∧ PySem.W.codeIn K cdv d.qual = true := by
  have c2 := (hdAnd (show ((fa.all fun f => f.ok K) && fn.all fun d => (Fa.code d.at_ d.qual).ok K) = true from congrArg Prod.fst c)).2
  have e2 : (fn.map fun d => fnObs K d.at_)[i]? = (fn.map FnD.val)[i]? := by rw [show (fn.map fun d => fnObs K d.at_) = fn.map FnD.val from congrArg Prod.snd c]
  rw [List.getElem?_map, List.getElem?_map, h] at e2
  exact fn_ok (Option.some.inj e2) (List.all_eq_true.mp c2 d (List.mem_of_getElem? h))
end
end L3

end
section
namespace L3.Lw
open PySem PySem.Spec PyProof.Rows L2 L3
def c_MOST : W := .int 4000
def c_CHARACTERS : W := .str [32, 33, 34, 35, 36, 38, 39, 40, 41, 42, 43, 44, 45, 46, 47, 48, 49, 50, 51, 52, 53, 54, 55, 56, 57, 58, 59, 60, 61, 62, 63, 64, 65, 66, 67, 68, 69, 70, 71, 72, 73, 74, 75, 76, 77, 78, 79, 80, 81, 82, 83, 84, 85, 86, 87, 88, 89, 90, 91, 92, 93, 94, 95, 96, 97, 98, 99, 100, 101, 102, 103, 104, 105, 106, 107, 108, 109, 110, 111, 112, 113, 114, 115, 116, 117, 118, 119, 120, 121, 122, 123, 124, 125, 126, 10]
def c_LETTERS : W := .str [97, 98, 99, 100, 101, 102, 103, 104, 105, 106, 107, 108, 109, 110, 111, 112, 113, 114, 115, 116, 117, 118, 119, 120, 121, 122, 65, 66, 67, 68, 69, 70, 71, 72, 73, 74, 75, 76, 77, 78, 79, 80, 81, 82, 83, 84, 85, 86, 87, 88, 89, 90]
def c_DIGITS : W := .str [48, 49, 50, 51, 52, 53, 54, 55, 56, 57]
def c_NAME_CHARACTERS : W := .str [97, 98, 99, 100, 101, 102, 103, 104, 105, 106, 107, 108, 109, 110, 111, 112, 113, 114, 115, 116, 117, 118, 119, 120, 121, 122, 65, 66, 67, 68, 69, 70, 71, 72, 73, 74, 75, 76, 77, 78, 79, 80, 81, 82, 83, 84, 85, 86, 87, 88, 89, 90, 48, 49, 50, 51, 52, 53, 54, 55, 56, 57, 95]
def c_SIGNS : W := .str [40, 41, 91, 93, 44, 58, 46, 61, 60, 43, 45, 42, 47]
def c_WORDS : W := .ktp [.str [105, 109, 112, 111, 114, 116], .str [100, 97, 116, 97], .str [116, 114, 97, 105, 116], .str [119, 105, 116, 104], .str [105, 109, 112, 108], .str [102, 111, 114], .str [100, 101, 102], .str [108, 101, 116], .str [105, 110], .str [105, 102], .str [116, 104, 101, 110], .str [101, 108, 115, 101], .str [108, 111, 111, 112], .str [116, 105, 109, 101, 115], .str [100, 111], .str [110, 111, 116], .str [97, 110, 100], .str [111, 114], .str [84, 114, 117, 101], .str [70, 97, 108, 115, 101]]
def c_MOST_TOKENS : W := .int 300
def c_MOST_DEPTH : W := .int 30
def c_LEVELS : W := .ktp [.ktp [.str [111, 114]], .ktp [.str [97, 110, 100]]]
def c_SUMS : W := .ktp [.str [43], .str [45]]
def c_PRODUCTS : W := .ktp [.str [42], .str [47]]
def c_INT : W := .ktp [.str [73, 110, 116]]
def c_BOOL : W := .ktp [.str [66, 111, 111, 108]]
def c_UNKNOWN : W := .ktp [.str [117, 110, 107, 110, 111, 119, 110]]
def c_BUILTINS : W := .ktp [.str [73, 110, 116], .str [66, 111, 111, 108]]
def c_CALLED : W := .ktp [.str [100, 101, 102], .str [109, 101, 116, 104, 111, 100], .str [100, 97, 116, 97]]
def c_ARITHMETIC : W := .ktp [.str [43], .str [45], .str [42], .str [47]]
def c_BAD_NAMES : W := .ktp [.str [117, 110, 107, 110, 111, 119, 110], .str [115, 111, 114, 116]]
def c_MOST_MODULES : W := .int 6
def topS (i : Nat) : Stmt := PySem.Challenge.pw_deepbench_k29_undo_and_redo.main.body.getD i (.Pass ⟨0, 0, 0, 0⟩)
abbrev t_law_tape : Stmt := topS 129
abbrev t_law_take : Stmt := topS 130
abbrev t_law_is_integer : Stmt := topS 131
abbrev t_law_same_items : Stmt := topS 132
abbrev t_law_same : Stmt := topS 133
abbrev t_law_snippet : Stmt := topS 134
abbrev t_law_edit_of : Stmt := topS 135
abbrev t_run_end : Stmt := topS 25
abbrev t_token_at : Stmt := topS 26
abbrev t_tokens_between : Stmt := topS 27
abbrev t_tokens : Stmt := topS 28
abbrev t_is_name : Stmt := topS 29
abbrev t_has_right_characters : Stmt := topS 15
abbrev t_is_text : Stmt := topS 16
abbrev t_apply_edit : Stmt := topS 17
abbrev t_inverse : Stmt := topS 18
abbrev t_need_module : Stmt := topS 126
abbrev t_Keeper__init : Stmt := inClass (topS 110) 0
abbrev t_Keeper_put : Stmt := inClass (topS 110) 1
abbrev t_Keeper_computed : Stmt := inClass (topS 110) 12
abbrev t_new_keeper : Stmt := topS 119
abbrev t_Server__init : Stmt := inClass (topS 127) 0
abbrev t_Server_modules : Stmt := inClass (topS 127) 1
abbrev t_Server_program : Stmt := inClass (topS 127) 2
abbrev t_Server_need_file : Stmt := inClass (topS 127) 3
abbrev t_Server_forget_steps : Stmt := inClass (topS 127) 5
abbrev t_Server_open_file : Stmt := inClass (topS 127) 6
abbrev t_Server_set_text : Stmt := inClass (topS 127) 8
abbrev t_Server_do_step : Stmt := inClass (topS 127) 9
abbrev t_Server_edit : Stmt := inClass (topS 127) 10
abbrev t_Server_undo : Stmt := inClass (topS 127) 11
abbrev t_Server_redo : Stmt := inClass (topS 127) 12
abbrev t_law_do : Stmt := topS 136
abbrev t_law_expected : Stmt := topS 137
abbrev t_law_act : Stmt := topS 138
abbrev t_law : Stmt := topS 139
def hdFn0 : List He.FnD := [⟨("_law_tape", none), "_law_tape", "_law_tape", defArgs t_law_tape, defBody t_law_tape, defScope t_law_tape⟩, ⟨("_law_take", none), "_law_take", "_law_take", defArgs t_law_take, defBody t_law_take, defScope t_law_take⟩, ⟨("_law_is_integer", none), "_law_is_integer", "_law_is_integer", defArgs t_law_is_integer, defBody t_law_is_integer, defScope t_law_is_integer⟩, ⟨("_law_same_items", none), "_law_same_items", "_law_same_items", defArgs t_law_same_items, defBody t_law_same_items, defScope t_law_same_items⟩, ⟨("_law_same", none), "_law_same", "_law_same", defArgs t_law_same, defBody t_law_same, defScope t_law_same⟩, ⟨("_law_snippet", none), "_law_snippet", "_law_snippet", defArgs t_law_snippet, defBody t_law_snippet, defScope t_law_snippet⟩, ⟨("_law_edit_of", none), "_law_edit_of", "_law_edit_of", defArgs t_law_edit_of, defBody t_law_edit_of, defScope t_law_edit_of⟩, ⟨("run_end", none), "run_end", "run_end", defArgs t_run_end, defBody t_run_end, defScope t_run_end⟩, ⟨("token_at", none), "token_at", "token_at", defArgs t_token_at, defBody t_token_at, defScope t_token_at⟩, ⟨("tokens_between", none), "tokens_between", "tokens_between", defArgs t_tokens_between, defBody t_tokens_between, defScope t_tokens_between⟩, ⟨("tokens", none), "tokens", "tokens", defArgs t_tokens, defBody t_tokens, defScope t_tokens⟩, ⟨("is_name", none), "is_name", "is_name", defArgs t_is_name, defBody t_is_name, defScope t_is_name⟩, ⟨("has_right_characters", none), "has_right_characters", "has_right_characters", defArgs t_has_right_characters, defBody t_has_right_characters, defScope t_has_right_characters⟩, ⟨("is_text", none), "is_text", "is_text", defArgs t_is_text, defBody t_is_text, defScope t_is_text⟩, ⟨("apply_edit", none), "apply_edit", "apply_edit", defArgs t_apply_edit, defBody t_apply_edit, defScope t_apply_edit⟩, ⟨("inverse", none), "inverse", "inverse", defArgs t_inverse, defBody t_inverse, defScope t_inverse⟩, ⟨("need_module", none), "need_module", "need_module", defArgs t_need_module, defBody t_need_module, defScope t_need_module⟩, ⟨("Keeper", some "__init__"), "__init__", "Keeper.__init__", defArgs t_Keeper__init, defBody t_Keeper__init, defScope t_Keeper__init⟩, ⟨("Keeper", some "put"), "put", "Keeper.put", defArgs t_Keeper_put, defBody t_Keeper_put, defScope t_Keeper_put⟩, ⟨("Keeper", some "computed"), "computed", "Keeper.computed", defArgs t_Keeper_computed, defBody t_Keeper_computed, defScope t_Keeper_computed⟩]
def hdFn1 : List He.FnD := [⟨("new_keeper", none), "new_keeper", "new_keeper", defArgs t_new_keeper, defBody t_new_keeper, defScope t_new_keeper⟩, ⟨("Server", some "__init__"), "__init__", "Server.__init__", defArgs t_Server__init, defBody t_Server__init, defScope t_Server__init⟩, ⟨("Server", some "modules"), "modules", "Server.modules", defArgs t_Server_modules, defBody t_Server_modules, defScope t_Server_modules⟩, ⟨("Server", some "program"), "program", "Server.program", defArgs t_Server_program, defBody t_Server_program, defScope t_Server_program⟩, ⟨("Server", some "need_file"), "need_file", "Server.need_file", defArgs t_Server_need_file, defBody t_Server_need_file, defScope t_Server_need_file⟩, ⟨("Server", some "forget_steps"), "forget_steps", "Server.forget_steps", defArgs t_Server_forget_steps, defBody t_Server_forget_steps, defScope t_Server_forget_steps⟩, ⟨("Server", some "open_file"), "open_file", "Server.open_file", defArgs t_Server_open_file, defBody t_Server_open_file, defScope t_Server_open_file⟩, ⟨("Server", some "set_text"), "set_text", "Server.set_text", defArgs t_Server_set_text, defBody t_Server_set_text, defScope t_Server_set_text⟩, ⟨("Server", some "do_step"), "do_step", "Server.do_step", defArgs t_Server_do_step, defBody t_Server_do_step, defScope t_Server_do_step⟩, ⟨("Server", some "edit"), "edit", "Server.edit", defArgs t_Server_edit, defBody t_Server_edit, defScope t_Server_edit⟩, ⟨("Server", some "undo"), "undo", "Server.undo", defArgs t_Server_undo, defBody t_Server_undo, defScope t_Server_undo⟩, ⟨("Server", some "redo"), "redo", "Server.redo", defArgs t_Server_redo, defBody t_Server_redo, defScope t_Server_redo⟩, ⟨("_law_do", none), "_law_do", "_law_do", defArgs t_law_do, defBody t_law_do, defScope t_law_do⟩, ⟨("_law_expected", none), "_law_expected", "_law_expected", defArgs t_law_expected, defBody t_law_expected, defScope t_law_expected⟩, ⟨("_law_act", none), "_law_act", "_law_act", defArgs t_law_act, defBody t_law_act, defScope t_law_act⟩, ⟨("law", none), "law", "law", defArgs t_law, defBody t_law, defScope t_law⟩]
def hdFn : List He.FnD := hdFn0 ++ hdFn1
def hdFa0 : List Fx := [.cls "Keeper", .fld "Keeper" "_asked", .fld "Keeper" "_compute", .fld "Keeper" "_done", .fld "Keeper" "_entries", .fld "Keeper" "_going", .fld "Keeper" "_inputs", .fld "Keeper" "_left", .fld "Keeper" "_revision", .cls "Server", .fld "Server" "_done", .fld "Server" "_keeper", .fld "Server" "_texts", .fld "Server" "_undone", .glo "_law_tape", .keep ("_law_tape", none), .glo "_law_take", .keep ("_law_take", none), .glo "_law_is_integer", .keep ("_law_is_integer", none)]
def hdFa1 : List Fx := [.glo "_law_same_items", .keep ("_law_same_items", none), .glo "_law_same", .keep ("_law_same", none), .glo "_law_snippet", .keep ("_law_snippet", none), .glo "_law_edit_of", .keep ("_law_edit_of", none), .glo "run_end", .keep ("run_end", none), .glo "token_at", .keep ("token_at", none), .glo "tokens_between", .keep ("tokens_between", none), .glo "tokens", .keep ("tokens", none), .glo "is_name", .keep ("is_name", none), .glo "has_right_characters", .keep ("has_right_characters", none)]
def hdFa2 : List Fx := [.glo "is_text", .keep ("is_text", none), .glo "apply_edit", .keep ("apply_edit", none), .glo "inverse", .keep ("inverse", none), .glo "need_module", .keep ("need_module", none), .meth "Keeper" "__init__", .keep ("Keeper", some "__init__"), .meth "Keeper" "put", .keep ("Keeper", some "put"), .meth "Keeper" "computed", .keep ("Keeper", some "computed"), .glo "new_keeper", .keep ("new_keeper", none), .meth "Server" "__init__", .keep ("Server", some "__init__"), .meth "Server" "modules", .keep ("Server", some "modules")]
def hdFa3 : List Fx := [.meth "Server" "program", .keep ("Server", some "program"), .meth "Server" "need_file", .keep ("Server", some "need_file"), .meth "Server" "forget_steps", .keep ("Server", some "forget_steps"), .meth "Server" "open_file", .keep ("Server", some "open_file"), .meth "Server" "set_text", .keep ("Server", some "set_text"), .meth "Server" "do_step", .keep ("Server", some "do_step"), .meth "Server" "edit", .keep ("Server", some "edit"), .meth "Server" "undo", .keep ("Server", some "undo"), .meth "Server" "redo", .keep ("Server", some "redo"), .glo "_law_do", .keep ("_law_do", none)]
def hdFa4 : List Fx := [.glo "_law_expected", .keep ("_law_expected", none), .glo "_law_act", .keep ("_law_act", none), .glo "law", .keep ("law", none), .free "abs", .free "bool", .free "dict", .free "int", .free "isinstance", .free "len", .free "list", .free "min", .free "range", .free "sorted", .free "str", .free "tuple", .exc "FileExists" "ValueError", .exc "InvalidEdit" "ValueError"]
def hdFa5 : List Fx := [.exc "NothingToUndo" "ValueError", .exc "ServerError" "ValueError", .exc "UnknownFile" "ValueError", .excX "NothingToUndo", .kitO "NothingToUndo" "ServerError", .glo "compute", .xm "InvalidEdit" "InvalidEdit", .xm "InvalidEdit" "NothingToUndo", .nx "InvalidEdit" "NothingToUndo", .xm "InvalidEdit" "UnknownFile", .nx "InvalidEdit" "UnknownFile", .xm "NothingToUndo" "InvalidEdit", .nx "NothingToUndo" "InvalidEdit", .xm "NothingToUndo" "NothingToUndo", .xm "NothingToUndo" "UnknownFile", .nx "NothingToUndo" "UnknownFile", .xm "UnknownFile" "InvalidEdit", .nx "UnknownFile" "InvalidEdit", .xm "UnknownFile" "NothingToUndo", .nx "UnknownFile" "NothingToUndo"]
def hdFa6 : List Fx := [.xm "UnknownFile" "UnknownFile", .kst "CHARACTERS" c_CHARACTERS, .kst "DIGITS" c_DIGITS, .kst "LETTERS" c_LETTERS, .kst "MOST" c_MOST, .kst "MOST_MODULES" c_MOST_MODULES, .kst "NAME_CHARACTERS" c_NAME_CHARACTERS, .kst "SIGNS" c_SIGNS, .kst "WORDS" c_WORDS]
def hdFa : List Fx := hdFa0 ++ hdFa1 ++ hdFa2 ++ hdFa3 ++ hdFa4 ++ hdFa5 ++ hdFa6
def hdWant0 : List Str := ["CHARACTERS", "DIGITS", "FileExists", "InvalidEdit", "Keeper", "LETTERS", "MOST", "MOST_MODULES", "NAME_CHARACTERS", "NothingToUndo", "SIGNS", "Server", "ServerError", "UnknownFile", "WORDS", "_law_act", "_law_do", "_law_edit_of", "_law_expected", "_law_is_integer"]
def hdWant1 : List Str := ["_law_same", "_law_same_items", "_law_snippet", "_law_take", "_law_tape", "apply_edit", "compute", "has_right_characters", "inverse", "is_name", "is_text", "law", "need_module", "new_keeper", "run_end", "token_at", "tokens", "tokens_between"]
def hdWant : List Str := hdWant0 ++ hdWant1
def hdLoose0 : List Str := ["_wall", "__name__", "chunks", "ServerError", "InvalidEdit", "UnknownFile", "FileExists", "NothingToUndo", "Cancelled", "CyclicKey", "SyntaxProblem", "MOST", "CHARACTERS", "has_right_characters", "is_text", "apply_edit", "inverse", "LETTERS", "DIGITS", "NAME_CHARACTERS"]
def hdLoose1 : List Str := ["SIGNS", "WORDS", "run_end", "token_at", "tokens_between", "tokens", "is_name", "number_value", "MOST_TOKENS", "MOST_DEPTH", "LEVELS", "SUMS", "PRODUCTS", "Reader", "read_import", "read_data", "read_trait", "read_impl", "read_bounds", "read_def"]
def hdLoose2 : List Str := ["ITEM_READERS", "read_item", "compute_chunks", "compute_chunk_count", "compute_chunk_text", "compute_item", "item_at", "introduced", "sorts_of", "compute_marks", "compute_declared", "is_doubled", "is_void", "home_of", "compute_scope", "INSIDE", "children", "nodes", "value_of_item", "INT"]
def hdLoose3 : List Str := ["BOOL", "UNKNOWN", "Kinds", "BUILTINS", "CALLED", "Namer", "inner_scopes", "nodes_inside", "method_locals", "compute_names", "bound_kind", "bounds_of", "bounds_by_name", "kind_named", "compute_shape", "bound_traits", "target_of", "compute_impls", "compute_impl_head", "compute_word"]
def hdLoose4 : List Str := ["kind_of_target", "has_body", "ARITHMETIC", "BAD_NAMES", "Judge", "trait_of", "has_trait", "body_locals", "doubled_impl", "compute_judged", "compute_result", "compute_calls", "all_bodies", "reaches_itself", "compute_cycles", "compute_below", "Entry", "Keeper", "start_of_chunk", "compute_module_problems"]
def hdLoose5 : List Str := ["compute_module_occurrences", "compute_uses", "RULES", "compute", "new_keeper", "symbol_at", "uses", "uses_questions", "MOST_MODULES", "need_module", "Server", "_law_tape", "_law_take", "_law_is_integer", "_law_same_items", "_law_same", "_law_snippet", "_law_edit_of", "_law_do", "_law_expected"]
def hdLoose6 : List Str := ["_law_act"]
def hdLoose : List Str := hdLoose0 ++ hdLoose1 ++ hdLoose2 ++ hdLoose3 ++ hdLoose4 ++ hdLoose5 ++ hdLoose6
abbrev hdRow : PySem.W.OpenRow := PySem.W.OpenLaw.row PySem.Challenge.rw_deepbench_k29_undo_and_redo
def hdAddr0 : List Addr := [75, 51, 1169, 87, 1463, 38, 63, 161, 1533, 1519, 1512, 1526, 1486, 1500, 1493, 1505, 1479, 1472, 153, 1210]
def hdAddr1 : List Addr := [139, 160, 196, 146, 1540, 1236, 1217, 168, 175, 189, 182, 74, 50, 1168, 86, 1462, 37, 62, 1532, 1518]
def hdAddr2 : List Addr := [1511, 1525, 1485, 1499, 1492, 1504, 1478, 1471, 152, 1209, 138, 159, 195, 145, 1539, 1235, 1216, 167, 174, 188]
def hdAddr3 : List Addr := [181, 73, 49, 1075, 1082, 1089, 1096, 1103, 1110, 1117, 1124, 1131, 1138, 1145, 1152, 1159, 1166, 1167, 1170, 1171]
def hdAddr4 : List Addr := [85, 1250, 1257, 1264, 1271, 1278, 1285, 1292, 1299, 1306, 1313, 1320, 1327, 1334, 1341, 1348, 1355, 1362, 1369, 1376]
def hdAddr5 : List Addr := [1383, 1390, 1397, 1404, 1411, 1418, 1425, 1432, 1439, 1446, 1453, 1460, 1461, 1464, 1465, 36, 39, 61, 1074, 1081]
def hdAddr6 : List Addr := [1088, 1095, 1102, 1109, 1116, 1123, 1130, 1137, 1144, 1151, 1158, 1165, 1249, 1256, 1263, 1270, 1277, 1284, 1291, 1298]
def hdAddr7 : List Addr := [1305, 1312, 1319, 1326, 1333, 1340, 1347, 1354, 1361, 1368, 1375, 1382, 1389, 1396, 1403, 1410, 1417, 1424, 1431, 1438]
def hdAddr8 : List Addr := [1445, 1452, 1459]
def hdAddr : List Addr := hdAddr0 ++ hdAddr1 ++ hdAddr2 ++ hdAddr3 ++ hdAddr4 ++ hdAddr5 ++ hdAddr6 ++ hdAddr7 ++ hdAddr8
abbrev hdView : Program := PySem.W.view hdRow.prog [139]
abbrev hdHook : PySem.W.Hook := hookX hdAddr hdFa hdFn
theorem hd_no1 (w : World) : ∀ os, (endX hdRow (w.withFollow "special-get-raises" false) os).map (fun s => (HandSHeadRun.looksF hdRow.prog (PySem.W.boot_heap (w.withFollow "special-get-raises" false).params) s.abs, HandSHeadRun.seenQ hdView hdLoose (importedModules hdRow.prog.main.body) (fun s => PySem.W.xlAt hdView [] s && PySem.W.recOk hdRow.toRowW.records s) s.abs)) = some (true, PySem.W.openGood hdView hdLoose) := by
  intro os
  kernel_rfl
theorem hd_no2 (w : World) : ∀ os, (endX hdRow (w.withFollow "special-get-raises" false) os).map (obsT hdAddr hdFa hdFn) = some (He.valE hdFn) := by
  intro os
  kernel_rfl
theorem hd_yes1 (w : World) : ∀ os, (endX hdRow (w.withFollow "special-get-raises" true) os).map (fun s => (HandSHeadRun.looksF hdRow.prog (PySem.W.boot_heap (w.withFollow "special-get-raises" true).params) s.abs, HandSHeadRun.seenQ hdView hdLoose (importedModules hdRow.prog.main.body) (fun s => PySem.W.xlAt hdView [] s && PySem.W.recOk hdRow.toRowW.records s) s.abs)) = some (true, PySem.W.openGood hdView hdLoose) := by
  intro os
  kernel_rfl
theorem hd_yes2 (w : World) : ∀ os, (endX hdRow (w.withFollow "special-get-raises" true) os).map (obsT hdAddr hdFa hdFn) = some (He.valE hdFn) := by
  intro os
  kernel_rfl
theorem hd_run (w : World) : HandSHeadRun.RunEq hdRow hdView hdHook (obsT hdAddr hdFa hdFn) 20000 hdLoose w := PySem.W.byRow2 "special-get-raises" (fun w => run_parts (hd_no1 w) (hd_no2 w)) (fun w => run_parts (hd_yes1 w) (hd_yes2 w)) w
end L3.Lw
end
section
set_option autoImplicit false
/-! L3DefB: more readings. -/
namespace L3
/-- code that the promise never comes to -/
@[simp] def sNever : TS := fun _ _ _ => False
@[simp] def eNever : TE := fun _ _ _ _ => False
def blsW : List W → Option (List Bool)
  | [] => some []
  | .bl i :: r => (blsW r).map (i :: ·)
  | _ :: _ => none
@[simp] theorem blsW_map (ns : List Bool) : blsW (ns.map W.bl) = some ns := by
  induction ns with
  | nil => rfl
  | cons n r ih => rw [List.map_cons, blsW, ih]; rfl
@[simp] def bAll (ws : List W) (G : Gh) (Q : QV) : Prop := match ws with
  | [.ref a] => (match G a with
    | some (.lst t) => (match blsW t with | some ns => Q (.bl (ns.all id)) G | none => False)
    | _ => False)
  | _ => False
@[simp] def bAny (ws : List W) (G : Gh) (Q : QV) : Prop := match ws with
  | [.ref a] => (match G a with
    | some (.lst t) => (match blsW t with | some ns => Q (.bl (ns.any id)) G | none => False)
    | _ => False)
  | _ => False
@[simp] def bRepr (ws : List W) (G : Gh) (Q : QV) : Prop := match ws with
  | [.bl b] => Q (.str (if b = true then [84, 114, 117, 101] else [70, 97, 108, 115, 101])) G
  | _ => False
/-- the pairs of two lists -/
def zitems (x y : W) : It := fun G => match items x G with
  | some xs => (match items y G with
    | some ys => some (List.zipWith (fun a b => W.tup [a, b]) xs ys)
    | none => none)
  | none => none
@[simp] def iZip (a : TA) : TI := fun γ G E R => a γ G E fun ws G1 => match ws with
  | [.ref p, .ref q] => (zitems (.ref p) (.ref q) G1).isSome = true ∧ R (zitems (.ref p) (.ref q)) G1
  | _ => False
/-- s.replace of one sign by a text -/
@[simp] def mReplace (x : W) (ws : List W) (G : Gh) (Q : QV) : Prop := match x with
  | .str s => (match ws with
    | [.str [c], .str z] => s.length + (s.length + 1) * z.length ≤ SZ ∧ c < 256 ∧ Q (.str (joinN z (splitN c s))) G
    | _ => False)
  | _ => False
/-- where c is found first, from n on -/
def fndS (s : List Nat) (c n : Nat) (r : Int) : Prop := (r = -1 ∧ ∀ v, n ≤ v → s[v]? ≠ some c) ∨ ∃ k : Nat, r = (k : Int) ∧ n ≤ k ∧ s[k]? = some c ∧ ∀ v, n ≤ v → v < k → s[v]? ≠ some c
@[simp] def mFind3 (x : W) (ws : List W) (G : Gh) (Q : QV) : Prop := match x with
  | .str s => (match ws with
    | [.str [c], .int i] => 0 ≤ i ∧ ∀ r, fndS s c i.toNat r → Q (.int r) G
    | _ => False)
  | _ => False
@[simp] def bTuple (ws : List W) (G : Gh) (Q : QV) : Prop := match ws with
  | [.tup t] => Q (.tup t) G
  | [.ref a] => (match G a with
    | some (.lst t) => Q (.tup t) G
    | _ => False)
  | _ => False
/-- where c is found last -/
def lastS (s : List Nat) (c : Nat) (r : Int) : Prop := (r = -1 ∧ ∀ v : Nat, s[v]? ≠ some c) ∨ ∃ k : Nat, r = (k : Int) ∧ s[k]? = some c ∧ ∀ v : Nat, k < v → s[v]? ≠ some c
@[simp] def mRfind (x : W) (ws : List W) (G : Gh) (Q : QV) : Prop := match x with
  | .str s => (match ws with
    | [.str [c]] => ∀ r, lastS s c r → Q (.int r) G
    | _ => False)
  | _ => False
/-- raise C('..') of a class of the program; try .. except C: with a body that raises that class alone, if any -/
@[simp] def sThrow (C : Nat) : TS := fun D γ G => D.ex γ (.ref C) [] G
@[simp] def sTry (C : Nat) (b h : TS) : TS := fun D γ G => b { D with ex := fun γ' w es G' => (match w with | .ref c => c = C ∧ es = [] ∧ h { D with ex := fun _ => X0 } γ' G' | _ => False) } γ G
end L3

end
section
set_option autoImplicit false
/-! L3DefC: readings of classes, of dicts by any key, of texts backwards, of try .. finally. -/
namespace L3
/-! ### instances -/
def setF : List W → Nat → W → Option (List W)
  | [], 0, w => some [w]
  | [], _ + 1, _ => none
  | _ :: r, 0, w => some (w :: r)
  | x :: r, i + 1, w => (setF r i w).map (x :: ·)
@[simp] theorem setF_nil {w : W} : setF [] 0 w = some [w] := rfl
@[simp] theorem setF_zero {x w : W} {r : List W} : setF (x :: r) 0 w = some (w :: r) := rfl
@[simp] theorem setF_succ {x w : W} {r : List W} {i : Nat} : setF (x :: r) (i + 1) w = (setF r i w).map (x :: ·) := rfl
def nthW : List W → Nat → Option W
  | [], _ => none
  | x :: _, 0 => some x
  | _ :: r, i + 1 => nthW r i
@[simp] theorem nthW_zero {x : W} {r : List W} : nthW (x :: r) 0 = some x := rfl
@[simp] theorem nthW_succ {x : W} {r : List W} {i : Nat} : nthW (x :: r) (i + 1) = nthW r i := rfl
theorem nthW_eq : ∀ (ws : List W) (i : Nat), nthW ws i = ws[i]?
  | [], i => by cases i <;> rfl
  | x :: r, 0 => rfl
  | x :: r, i + 1 => by rw [nthW_succ, nthW_eq r i, List.getElem?_cons_succ]
/-- the instance at x -/
@[simp] def asIns (C : Nat) (ns : List (List Nat)) (x : W) (G : Gh) (Q : Nat → List W → Prop) : Prop := match x with
  | .ref p => (match G p with
    | some (.ins C' ns' ws) => C' = C ∧ ns' = ns ∧ Q p ws
    | _ => False)
  | _ => False
@[simp] def eFld (C : Nat) (ns : List (List Nat)) (i : Nat) (o : TE) : TE := fun γ G E Q => o γ G E fun x G1 => asIns C ns x G1 fun _ ws => match nthW ws i with | some w => Q w G1 | none => False
@[simp] def sFld (C : Nat) (ns : List (List Nat)) (i : Nat) (o v : TE) : TS := fun D γ G => v γ G (D.ex γ) fun w G1 => o γ G1 (D.ex γ) fun x G2 => asIns C ns x G2 fun p ws => match setF ws i w with | some ws' => D.nx γ (up G2 p (.ins C ns ws')) | none => False
@[simp] def sFldAug (C : Nat) (ns : List (List Nat)) (i : Nat) (r : R2) (o v : TE) : TS := fun D γ G => o γ G (D.ex γ) fun x G1 => asIns C ns x G1 fun _ ws => match nthW ws i with
  | some w => v γ G1 (D.ex γ) fun y G2 => r w y G2 fun z G3 => asIns C ns x G3 fun p ws' => match setF ws' i z with | some ws2 => D.nx γ (up G3 p (.ins C ns ws2)) | none => False
  | none => False
@[simp] def eMet (C : Nat) (ns : List (List Nat)) (sp : Sp) (o : TE) (a : TA) : TE := fun γ G E Q => o γ G E fun x G1 => asIns C ns x G1 fun _ _ => a γ G1 E fun ws G2 => sp (x :: ws) G2 Q E
/-- a call of what slot i holds, the def at f -/
@[simp] def eCallV (f : Nat) (sp : Sp) (i : Nat) (a : TA) : TE := fun γ G E Q => get γ i = some (.ref f) ∧ a γ G E fun ws G1 => sp ws G1 Q E
/-- C(..), the __init__ raises nothing -/
@[simp] def eMakeX (C : Nat) (ns : List (List Nat)) (sp : Sp) (a : TA) : TE := fun γ G E Q => a γ G E fun ws G1 => ∀ p, G1 p = none → sp (.ref p :: ws) (up G1 p (.ins C ns [])) (fun v G2 => v = .non ∧ Q (.ref p) G2) X0
/-! ### subscripts of anything -/
def keyT : W → Bool
  | .tup ws => ws.all key1
  | _ => false
@[simp] theorem keyT_tup {ws : List W} : keyT (.tup ws) = ws.all key1 := rfl
@[simp] def dictOf (x : W) (G : Gh) (y : W) (Q : List (W × W) → Prop) : Prop := match x with
  | .ref a => (match G a with
    | some (.dct kvs) => key1 y = true ∧ Q kvs
    | some (.rdc kvs) => key1 y = true ∧ Q kvs
    | some (.dtt kvs) => keyT y = true ∧ Q kvs
    | some (.rdt kvs) => keyT y = true ∧ Q kvs
    | _ => False)
  | _ => False
@[simp] def rAt : R2 := fun x y G Q => match x with
  | .str s => (match y with | .int i => s.length ≤ SZ ∧ (match at_ s i with | some c => Q (.str [c]) G | none => False) | _ => False)
  | .tup ws => (match y with | .int i => (match at_ ws i with | some w => Q w G | none => False) | _ => False)
  | .ktp ws => (match y with | .int i => (match at_ ws i with | some w => Q w G | none => False) | _ => False)
  | .ref a => (match G a with
    | some (.lst ws) => (match y with | .int i => (match at_ ws i with | some w => Q w G | none => False) | _ => False)
    | some (.rdl ws) => (match y with | .int i => (match at_ ws i with | some w => Q w G | none => False) | _ => False)
    | some (.dct kvs) => key1 y = true ∧ (match look kvs y with | some v => Q v G | none => False)
    | some (.rdc kvs) => key1 y = true ∧ (match look kvs y with | some v => Q v G | none => False)
    | some (.dtt kvs) => keyT y = true ∧ (match look kvs y with | some v => Q v G | none => False)
    | some (.rdt kvs) => keyT y = true ∧ (match look kvs y with | some v => Q v G | none => False)
    | _ => False)
  | _ => False
/-- o[i] = v: first v, then o, then i -/
@[simp] def sPutA (v o i : TE) : TS := fun D γ G => v γ G (D.ex γ) fun z G1 => o γ G1 (D.ex γ) fun x G2 => i γ G2 (D.ex γ) fun y G3 => match x with
  | .ref a => (match G3 a with
    | some (.lst ws) => (match y with | .int j => (match ixn ws.length j with | some n => D.nx γ (up G3 a (.lst (ws.set n z))) | none => False) | _ => False)
    | some (.dct kvs) => key1 y = true ∧ kvs.length < SZ ∧ D.nx γ (up G3 a (.dct (putD kvs y z)))
    | some (.dtt kvs) => keyT y = true ∧ kvs.length < SZ ∧ D.nx γ (up G3 a (.dtt (putD kvs y z)))
    | _ => False)
  | _ => False
/-- k in d, for dicts too -/
@[simp] def rInB (x y : W) (G : Gh) (Q : Bool → Prop) : Prop := match y with
  | .str s => (match x with | .str [c] => Q (decide (c ∈ s)) | _ => False)
  | .tup ws => ((flatW x = true ∧ ws.all flatW = true) ∨ (okD DP x = true ∧ ws.all (okD DP) = true)) ∧ Q (ws.any fun w => weq w x)
  | .ktp ws => (flatW x = true ∧ ws.all flatW = true) ∧ Q (ws.any fun w => weq w x)
  | .ref a => (match G a with
    | some (.lst ws) => okD DP x = true ∧ ws.all (okD DP) = true ∧ Q (ws.any fun w => weq w x)
    | some (.dct kvs) => key1 x = true ∧ Q (has kvs x)
    | some (.rdc kvs) => key1 x = true ∧ Q (has kvs x)
    | some (.dtt kvs) => keyT x = true ∧ Q (has kvs x)
    | some (.rdt kvs) => keyT x = true ∧ Q (has kvs x)
    | _ => False)
  | _ => False
@[simp] def rInD : R2 := fun x y G Q => rInB x y G fun k => Q (.bl k) G
@[simp] def rNotInD : R2 := fun x y G Q => rInB x y G fun k => Q (.bl (!k)) G
@[simp] def eDnewT : TE := fun _ G _ Q => ∀ p, G p = none → Q (.ref p) (up G p (.dtt []))
/-! ### methods of dicts and lists -/
@[simp] def isDW (x : W) (G : Gh) : Prop := match x with
  | .ref a => (match G a with
    | some (.dct _) => True
    | some (.rdc _) => True
    | some (.dtt _) => True
    | some (.rdt _) => True
    | _ => False)
  | _ => False
/-- d.get(k), d.get(k, z) -/
@[simp] def eDget1 (o i : TE) : TE := fun γ G E Q => o γ G E fun x G1 => isDW x G1 ∧ i γ G1 E fun y G2 => dictOf x G2 y fun kvs => Q ((look kvs y).getD .non) G2
@[simp] def eDget2 (o i d : TE) : TE := fun γ G E Q => o γ G E fun x G1 => isDW x G1 ∧ i γ G1 E fun y G2 => d γ G2 E fun z G3 => dictOf x G3 y fun kvs => Q ((look kvs y).getD z) G3
@[simp] def isDM (x : W) (G : Gh) : Prop := match x with
  | .ref a => (match G a with
    | some (.dct _) => True
    | some (.dtt _) => True
    | _ => False)
  | _ => False
/-- d.pop(k, z) -/
@[simp] def popD (x y z : W) (G : Gh) (Q : QV) : Prop := match x with
  | .ref a => (match G a with
    | some (.dct kvs) => key1 y = true ∧ (match look kvs y with | some v => Q v (up G a (.dct (dropD kvs y))) | none => Q z G)
    | some (.dtt kvs) => keyT y = true ∧ (match look kvs y with | some v => Q v (up G a (.dtt (dropD kvs y))) | none => Q z G)
    | _ => False)
  | _ => False
@[simp] def eDpop2 (o i d : TE) : TE := fun γ G E Q => o γ G E fun x G1 => isDM x G1 ∧ i γ G1 E fun y G2 => d γ G2 E fun z G3 => popD x y z G3 Q
/-- d.pop(k), the key is there -/
@[simp] def popK (x y : W) (G : Gh) (Q : QV) : Prop := match x with
  | .ref a => (match G a with
    | some (.dct kvs) => key1 y = true ∧ (match look kvs y with | some v => Q v (up G a (.dct (dropD kvs y))) | none => False)
    | some (.dtt kvs) => keyT y = true ∧ (match look kvs y with | some v => Q v (up G a (.dtt (dropD kvs y))) | none => False)
    | _ => False)
  | _ => False
@[simp] def eDpop1 (o i : TE) : TE := fun γ G E Q => o γ G E fun x G1 => isDM x G1 ∧ i γ G1 E fun y G2 => popK x y G2 Q
/-- d.setdefault(k, z) -/
@[simp] def eDsetd (o i d : TE) : TE := fun γ G E Q => o γ G E fun x G1 => isDM x G1 ∧ i γ G1 E fun y G2 => d γ G2 E fun z G3 => match x with
  | .ref a => (match G3 a with
    | some (.dct kvs) => key1 y = true ∧ kvs.length < SZ ∧ (match look kvs y with | some v => Q v G3 | none => Q z (up G3 a (.dct (putD kvs y z))))
    | some (.dtt kvs) => keyT y = true ∧ kvs.length < SZ ∧ (match look kvs y with | some v => Q v G3 | none => Q z (up G3 a (.dtt (putD kvs y z))))
    | _ => False)
  | _ => False
/-- xs.pop() -/
@[simp] def mPop (x : W) (ws : List W) (G : Gh) (Q : QV) : Prop := match x with
  | .ref a => (match G a with
    | some (.lst t) => (match ws with | [] => (match t.getLast? with | some w => Q w (up G a (.lst t.dropLast)) | none => False) | _ => False)
    | _ => False)
  | _ => False
/-- list(x) -/
@[simp] def bList (ws : List W) (G : Gh) (Q : QV) : Prop := match ws with
  | [.tup t] => ∀ p, G p = none → Q (.ref p) (up G p (.lst t))
  | [.ktp t] => ∀ p, G p = none → Q (.ref p) (up G p (.lst t))
  | [.ref a] => (match G a with
    | some (.lst t) => ∀ p, G p = none → Q (.ref p) (up G p (.lst t))
    | some (.rdl t) => ∀ p, G p = none → Q (.ref p) (up G p (.lst t))
    | some (.dtt kvs) => ∀ p, G p = none → Q (.ref p) (up G p (.lst (kvs.map (·.1))))
    | _ => False)
  | _ => False
/-! ### the keys of a dict, which is locked while they are walked -/
@[simp] def kItems (a : Nat) : It := fun G => match G a with
  | some (.rdc kvs) => some (kvs.map (·.1))
  | some (.rdt kvs) => some (kvs.map (·.1))
  | _ => none
@[simp] def iKeys (e : TE) : TI := fun γ G E R => e γ G E fun x G1 => match x with
  | .ref a => (match G1 a with
    | some (.rdc _) => R (kItems a) G1
    | some (.rdt _) => R (kItems a) G1
    | _ => False)
  | _ => False
def lockD (a : Nat) (lo un : O) (D : Ends) : Ends := { D with nx := fun γ G => G a = some lo ∧ D.nx γ (up G a un), rt := fun w G => G a = some lo ∧ D.rt w (up G a un), bk := fun γ G => G a = some lo ∧ D.bk γ (up G a un), ct := fun γ G => G a = some lo ∧ D.ct γ (up G a un) }
/-- a dict is locked while the statement runs -/
def sLock (t : TS) : TS := fun D γ G => ∃ a kvs, (G a = some (.dct kvs) ∧ t (lockD a (.rdc kvs) (.dct kvs) D) γ (up G a (.rdc kvs))) ∨ (G a = some (.dtt kvs) ∧ t (lockD a (.rdt kvs) (.dtt kvs) D) γ (up G a (.rdt kvs)))
/-! ### sorted of a dict with tuple keys: some order of them -/
def kindW : W → Nat
  | .int _ => 1
  | .str _ => 2
  | _ => 0
def sameK (ks : List W) : Prop := ∃ sh : List Nat, sh ≠ [] ∧ ∀ k ∈ ks, ∃ ws, k = W.tup ws ∧ ws.map kindW = sh
def ltK : W → W → Bool
  | .int i, y => (match y with | .int j => decide (i < j) | _ => false)
  | .str a, y => (match y with | .str b => decide (a < b) | _ => false)
  | _, _ => false
def leKs : List W → List W → Bool
  | [], _ => true
  | x :: xs, ys => (match ys with | [] => false | y :: ys => if keq x y = true then leKs xs ys else ltK x y)
def leK : W → W → Bool
  | .tup a, y => (match y with | .tup b => leKs a b | _ => true)
  | _, _ => true
def sortK (l : List W) : List W := l.mergeSort leK
theorem sortK_perm (l : List W) : (sortK l).Perm l := List.mergeSort_perm l _
@[simp] def bSortd (ws : List W) (G : Gh) (Q : QV) : Prop := match ws with
  | [.ref a] => (match G a with
    | some (.dtt kvs) => sameK (kvs.map (·.1)) ∧ ∀ p ks, G p = none → ks = sortK (kvs.map (·.1)) → Q (.ref p) (up G p (.lst ks))
    | some (.lst l) => sameK l ∧ l.all keyT = true ∧ ∀ p ks, G p = none → ks = sortK l → Q (.ref p) (up G p (.lst ks))
    | _ => False)
  | _ => False
/-! ### str(i) -/
def decI (i : Int) : List Nat := (toString i).toList.map Char.toNat
@[simp] def bStr (ws : List W) (G : Gh) (Q : QV) : Prop := match ws with
  | [.int i] => i.natAbs.log2 < 1920 ∧ Q (.str (decI i)) G
  | [.str a] => Q (.str a) G
  | [.bl b] => Q (.str (if b = true then [84, 114, 117, 101] else [70, 97, 108, 115, 101])) G
  | _ => False
/-- x is True -/
@[simp] def rIsL : R2 := fun x y G Q => match x with | .bl a => (match y with | .bl b => Q (.bl (decide (a = b))) G | _ => False) | _ => False
@[simp] def rIsLN : R2 := fun x y G Q => match x with | .bl a => (match y with | .bl b => Q (.bl (!decide (a = b))) G | _ => False) | _ => False
/-! ### except C as e -/
def sTryAs (C i : Nat) (b : TS) (h : Nat → TS) : TS := fun D γ G => b { D with ex := fun γ' w es G' => (match w with | .ref c => c = C ∧ es = [] ∧ ∀ a, G' a = none → h a { nx := fun γ2 G2 => D.nx (del γ2 i) G2, rt := D.rt, bk := fun γ2 G2 => D.bk (del γ2 i) G2, ct := fun γ2 G2 => D.ct (del γ2 i) G2, ex := fun _ => X0 } (put γ' i (.ref a)) G' | _ => False) } γ G
/-- isinstance(e, c), e the error at a, of the class that the suite tells -/
@[simp] def bIsE (a : Nat) (c : W) (b : Bool) (ws : List W) (G : Gh) (Q : QV) : Prop := match ws with
  | [.ref a', c'] => a' = a ∧ c' = c ∧ Q (.bl b) G
  | _ => False
/-! ### texts -/
@[simp] def iZipS (a : TA) : TI := fun γ G E R => a γ G E fun ws G1 => match ws with
  | [.str x, .str y] => R (fun _ => some (List.zipWith (fun c d => W.tup [.str [c], .str [d]]) x y)) G1
  | _ => False
/-- x[::-1] -/
@[simp] def eRev (a : TE) : TE := fun γ G E Q => a γ G E fun x G1 => match x with
  | .str s => s.length ≤ SZ ∧ Q (.str s.reverse) G1
  | .ref p => (match G1 p with
    | some (.lst ws) => ∀ q, G1 q = none → Q (.ref q) (up G1 q (.lst ws.reverse))
    | _ => False)
  | _ => False
/-! ### try -/
/-- try: b, finally: h (h changes no flow and raises nothing) -/
@[simp] def sFin (b h : TS) : TS := fun D γ G => b { nx := fun γ' G' => h { D with ex := fun _ => X0 } γ' G', rt := fun w G' => False, ex := fun γ' w es G' => es = [] ∧ h { nx := fun γ2 G2 => D.ex γ2 w es G2, rt := fun _ _ => False, ex := fun _ => X0 } γ' G' } γ G
/-- what is walked is a list of the heap -/
def isRef : W → Prop
  | .ref _ => True
  | _ => False
@[simp] def iLst (e : TE) : TI := fun γ G E R => e γ G E fun x G1 => isRef x ∧ (items x G1).isSome = true ∧ R (items x) G1
/-- o[i] of a list, as a target -/
@[simp] def gSubL (o i : TE) : TG := fun w γ G Q => o γ G X0 fun x G1 => i γ G1 X0 fun y G2 => match x with
  | .ref a => (match G2 a with
    | some (.lst ws) => (match y with | .int j => (match ixn ws.length j with | some n => Q γ (up G2 a (.lst (ws.set n w))) | none => False) | _ => False)
    | _ => False)
  | _ => False
end L3

end
section
set_option autoImplicit false
/-! L3DefD: dicts that the module writes, zip of lists and tuples. -/
namespace L3
/-! ### a dict of the module, with text keys -/
abbrev KD := List (List Nat × W)
def lookS : KD → List Nat → Option W
  | [], _ => none
  | p :: r, k => if p.1 = k then some p.2 else lookS r k
@[simp] def eKget (d : KD) (i : TE) : TE := fun γ G E Q => i γ G E fun y G1 => match y with
  | .str z => Q ((lookS d z).getD .non) G1
  | _ => False
@[simp] def eKix (d : KD) (i : TE) : TE := fun γ G E Q => i γ G E fun y G1 => match y with
  | .str z => (match lookS d z with | some v => Q v G1 | none => False)
  | _ => False
@[simp] def eKin (d : KD) (i : TE) : TE := fun γ G E Q => i γ G E fun y G1 => match y with
  | .str z => Q (.bl (lookS d z).isSome) G1
  | _ => False
@[simp] def eKnin (d : KD) (i : TE) : TE := fun γ G E Q => i γ G E fun y G1 => match y with
  | .str z => Q (.bl (!(lookS d z).isSome)) G1
  | _ => False
/-! ### zip of lists and tuples -/
/-- neither a text nor a number -/
def isSeqW : W → Bool
  | .ref _ => true
  | .tup _ => true
  | .ktp _ => true
  | .kl _ => true
  | _ => false
def gitems (x y : W) (n m : Nat) : It := fun G => match items x G with
  | some xs => (match items y G with
    | some ys => if xs.length = n ∧ ys.length = m then some (List.zipWith (fun a b => W.tup [a, b]) xs ys) else none
    | none => none)
  | none => none
@[simp] def iZipG (a : TA) : TI := fun γ G E R => a γ G E fun ws G1 => match ws with
  | [x, y] => isSeqW x = true ∧ isSeqW y = true ∧ ∃ xs ys, items x G1 = some xs ∧ items y G1 = some ys ∧ R (gitems x y xs.length ys.length) G1
  | _ => False
theorem gitems_eq {x y : W} {G : Gh} {xs ys : List W} (h1 : items x G = some xs) (h2 : items y G = some ys) : gitems x y xs.length ys.length G = some (List.zipWith (fun a b => W.tup [a, b]) xs ys) := by
  unfold gitems
  rw [h1, h2]
  simp
/-- a comprehension whose test or element may raise -/
@[simp] def eLcX (i : TI) (g : TG) (t : TT) (e : TE) (vs : List Nat) : TE := fun γ G E Q => i γ G E fun J G1 => ∀ D, G1 D = none → ∃ all, J (up G1 D (.lst [])) = some all ∧
  lcL J all g t e (wipe γ vs) D E Q all [] (up G1 D (.lst []))
/-! ### exceptions with fields -/
/-- raise C(..), C's __init__ sets its fields one by one -/
@[simp] def sThrowF (C : Nat) (ns : List (List Nat)) (a : TA) : TS := fun D γ G => a γ G (D.ex γ) fun ws G1 => ws.length = ns.length ∧ ∀ d, G1 d = none → D.ex γ (.ref C) [.ref d] (up G1 d (.exo C ns ws))
/-- except C: -/
@[simp] def sTryX (C : Nat) (b h : TS) : TS := fun D γ G => b { D with ex := fun γ' w es G' => (match w with | .ref c => c = C ∧ h { D with ex := fun _ => X0 } γ' G' | _ => False) } γ G
/-- except C as e: -/
def sTryAsX (C i : Nat) (b : TS) (h : Nat → Nat → TS) : TS := fun D γ G => b { D with ex := fun γ' w es G' => (match w with | .ref c => c = C ∧ ∃ d, es = [.ref d] ∧ ∀ a, G' a = none → h a d { nx := fun γ2 G2 => D.nx (del γ2 i) G2, rt := D.rt, bk := fun γ2 G2 => D.bk (del γ2 i) G2, ct := fun γ2 G2 => D.ct (del γ2 i) G2, ex := fun _ => X0 } (put γ' i (.ref a)) G' | _ => False) } γ G
/-- e.f of a caught error -/
@[simp] def eXF (C : Nat) (ns : List (List Nat)) (k a d : Nat) (o : TE) : TE := fun γ G E Q => o γ G E fun x G1 => x = .ref a ∧ (match G1 d with
  | some (.exo C' ns' ws) => C' = C ∧ ns' = ns ∧ (match nthW ws k with | some w => Q w G1 | none => False)
  | _ => False)
/-- isinstance of a caught error with fields -/
@[simp] def bIsEX (a d : Nat) (c : W) (b : Bool) (ws : List W) (G : Gh) (Q : QV) : Prop := match ws with
  | [.ref x, y] => x = a ∧ y = c ∧ (∃ C ns us, G d = some (.exo C ns us)) ∧ Q (.bl b) G
  | _ => False
/-- s.index(c) of a sign that stands in s -/
@[simp] def mIndexC (x : W) (ws : List W) (G : Gh) (Q : QV) : Prop := match x with
  | .str s => (match ws with
    | [.str [c]] => ∃ k : Nat, s[k]? = some c ∧ (∀ v : Nat, v < k → s[v]? ≠ some c) ∧ Q (.int (k : Nat)) G
    | _ => False)
  | _ => False
end L3

end
section
set_option autoImplicit false
/-! L3DefE: f-strings. -/
namespace L3
/-- {x}: a text or a number -/
@[simp] def eFmt (a : TE) : TE := fun γ G E Q => a γ G E fun x G1 => match x with
  | .str s => s.length ≤ SZ ∧ Q (.str s) G1
  | .int i => i.natAbs.log2 < 1920 ∧ Q (.str (decI i)) G1
  | _ => False
/-- the texts one behind the other -/
def eJs : List TE → List Nat → Fr → Gh → XQ → (List Nat → Gh → Prop) → Prop
  | [], acc, _, G, _, Q => Q acc G
  | t :: ts, acc, γ, G, E, Q => t γ G E fun x G1 => match x with
    | .str y => acc.length + y.length ≤ SZ ∧ eJs ts (acc ++ y) γ G1 E Q
    | _ => False
@[simp] theorem eJs_nil {acc : List Nat} {γ : Fr} {G : Gh} {E : XQ} {Q : List Nat → Gh → Prop} : eJs [] acc γ G E Q = Q acc G := rfl
@[simp] theorem eJs_cons {t : TE} {ts : List TE} {acc : List Nat} {γ : Fr} {G : Gh} {E : XQ} {Q : List Nat → Gh → Prop} : eJs (t :: ts) acc γ G E Q = t γ G E fun x G1 => match x with
    | .str y => acc.length + y.length ≤ SZ ∧ eJs ts (acc ++ y) γ G1 E Q
    | _ => False := rfl
/-- f'..' -/
@[simp] def eFS (ts : List TE) : TE := fun γ G E Q => eJs ts [] γ G E fun out G1 => Q (.str out) G1
/-- one of two readings fits (a call of one of several defs) -/
@[simp] def eOrE (a b : TE) : TE := fun γ G E Q => a γ G E Q ∨ b γ G E Q
end L3

end
section
set_option autoImplicit false
/-! L3DefF: == of nested lists, list.extend, replace of any text. -/
namespace L3
/-- what a list of lists says, by value: lists are .kl -/
inductive HV (G : Gh) : Nat → W → W → Prop
  | flat {n : Nat} {w : W} (h : okD n w = true) : HV G n w w
  | lst {n a : Nat} {xs ts : List W} (h : G a = some (.lst xs)) (hl : xs.length = ts.length) (k : ∀ (i : Nat) (x t : W), xs[i]? = some x → ts[i]? = some t → HV G n x t) : HV G (n + 1) (.ref a) (.kl ts)
theorem HV.le {G G' : Gh} (l : Le G G') {n : Nat} {w t : W} (h : HV G n w t) : HV G' n w t := by
  induction h with
  | flat h => exact .flat h
  | lst h hl k ih => exact .lst (l _ _ h) hl ih
mutual
def neq : W → W → Bool
  | .kl a, y => (match y with | .kl b => neqL a b | _ => false)
  | .non, y => weq .non y
  | .bl a, y => weq (.bl a) y
  | .int a, y => weq (.int a) y
  | .str a, y => weq (.str a) y
  | .tup a, y => weq (.tup a) y
  | .ref _, _ => false
  | .ty _, _ => false
  | .ktp _, _ => false
def neqL : List W → List W → Bool
  | [], ys => ys.isEmpty
  | x :: xs, ys => (match ys with | [] => false | y :: ys => neq x y && neqL xs ys)
end
/-- == and != of lists of lists -/
@[simp] def rEqN : R2 := fun x y G Q => ∃ n m s t, n ≤ DP ∧ m ≤ DP ∧ HV G n x s ∧ HV G m y t ∧ Q (.bl (neq s t)) G
@[simp] def rNeN : R2 := fun x y G Q => ∃ n m s t, n ≤ DP ∧ m ≤ DP ∧ HV G n x s ∧ HV G m y t ∧ Q (.bl (!neq s t)) G
/-- xs.extend(ys) -/
@[simp] def mExtend (x : W) (ws : List W) (G : Gh) (Q : QV) : Prop := match x with
  | .ref a => (match G a with
    | some (.lst t) => (match ws with
      | [.ref b] => (match G b with | some (.lst u) => t.length + u.length ≤ SZ ∧ Q .non (up G a (.lst (t ++ u))) | _ => False)
      | _ => False)
    | _ => False)
  | _ => False
/-- l with z for y, where y stands; the number is the fuel -/
def rplF (y z : List Nat) : Nat → List Nat → List Nat
  | 0, l => l
  | n + 1, l => match l with
    | [] => []
    | c :: r => bif y.isPrefixOf (c :: r) then z ++ rplF y z n ((c :: r).drop y.length) else c :: rplF y z n r
def rpl (y z l : List Nat) : List Nat := rplF y z l.length l
@[simp] def mReplaceL (x : W) (ws : List W) (G : Gh) (Q : QV) : Prop := match x with
  | .str s => (match ws with
    | [.str y, .str z] => y ≠ [] ∧ s.length + (s.length + 1) * z.length ≤ SZ ∧ Q (.str (rpl y z s)) G
    | _ => False)
  | _ => False
/-- != of lists of lists, the right one not too deep -/
@[simp] def rNeM : R2 := fun x y G Q => ∃ n m s t, m ≤ DP ∧ HV G n x s ∧ HV G m y t ∧ Q (.bl (!neq s t)) G
/-- two signs, side by side -/
def twoIn (c d : Nat) : List Nat → Bool
  | [] => false
  | a :: r => (decide (a = c) && decide (r.head? = some d)) || twoIn c d r
/-- "cd" in s -/
@[simp] def rInS2 : R2 := fun x y G Q => match x with
  | .str [c, d] => (match y with
    | .str s => Q (.bl (twoIn c d s)) G
    | _ => False)
  | _ => False
/-- l.index(x): the first place of an equal one -/
@[simp] def mIndexL (x : W) (ws : List W) (G : Gh) (Q : QV) : Prop := match x with
  | .ref a => (match G a with
    | some (.lst l) => (match ws with
      | [y] => okD DP y = true ∧ l.all (okD DP) = true ∧ ∃ k : Nat, (∃ z, l[k]? = some z ∧ weq z y = true) ∧ (∀ (v : Nat) (z : W), v < k → l[v]? = some z → weq z y = false) ∧ Q (.int (k : Nat)) G
      | _ => False)
    | _ => False)
  | _ => False
/-! ### several except clauses -/
def clsX (D : Ends) : List (Nat × Option Nat × (Nat → TS)) → Nat → Fr → Gh → Prop
  | [], _, _, _ => False
  | (C, o, h) :: r, c, γ', G' => if c = C then (match o with
      | none => ∀ a, G' a = none → h a { D with ex := fun _ => X0 } γ' G'
      | some i => ∀ a, G' a = none → h a { nx := fun γ2 G2 => D.nx (del γ2 i) G2, rt := D.rt, bk := fun γ2 G2 => D.bk (del γ2 i) G2, ct := fun γ2 G2 => D.ct (del γ2 i) G2, ex := fun _ => X0 } (put γ' i (.ref a)) G') else clsX D r c γ' G'
/-- try: b / except C1 ..: / except C2 ..: -/
def sTryMany (l : List (Nat × Option Nat × (Nat → TS))) (b : TS) : TS := fun D γ G => b { D with ex := fun γ' w es G' => (match w with | .ref c => es = [] ∧ clsX D l c γ' G' | _ => False) } γ G
/-- dict(d): a copy -/
@[simp] def bDict (ws : List W) (G : Gh) (Q : QV) : Prop := match ws with
  | [.ref a] => (match G a with
    | some (.dct kvs) => ∀ p, G p = none → Q (.ref p) (up G p (.dct kvs))
    | _ => False)
  | _ => False
/-- sorted(d), the keys are texts: some order of them -/
@[simp] def bSortdS (ws : List W) (G : Gh) (Q : QV) : Prop := match ws with
  | [.ref a] => (match G a with
    | some (.dct kvs) => ∃ ks : List (List Nat), kvs.map (·.1) = ks.map W.str ∧ ks.length < 64 ∧ ∀ p (ys : List (List Nat)), G p = none → ys.Perm ks → Q (.ref p) (up G p (.lst (ys.map W.str)))
    | _ => False)
  | _ => False
/-- x == [], x != [] of any list -/
@[simp] def rEqE : R2 := fun x y G Q => match x with
  | .ref a => (match G a with
    | some (.lst xs) => (match y with
      | .ref b => (match G b with | some (.lst []) => Q (.bl xs.isEmpty) G | _ => False)
      | _ => False)
    | _ => False)
  | _ => False
@[simp] def rNeE : R2 := fun x y G Q => match x with
  | .ref a => (match G a with
    | some (.lst xs) => (match y with
      | .ref b => (match G b with | some (.lst []) => Q (.bl (!xs.isEmpty)) G | _ => False)
      | _ => False)
    | _ => False)
  | _ => False
end L3

end
section
set_option autoImplicit false
/-! L3Lem: lemmas about the readings. -/
namespace L3
/-- a comprehension without a test whose element changes nothing -/
theorem lcL_map {J : It} {all : List W} {i : Nat} {e : TE} {γ : Fr} {D : Nat} {Q : QV} {G0 : Gh} (f : W → W) (hJ : ∀ acc, J (up G0 D (.lst acc)) = some all)
    (he : ∀ w ∈ all, ∀ acc (K : QV), K (f w) (up G0 D (.lst acc)) → e (put γ i w) (up G0 D (.lst acc)) X0 K) :
    ∀ (r acc : List W), (∀ w ∈ r, w ∈ all) → acc.length + r.length ≤ SZ → Q (.ref D) (up G0 D (.lst (acc ++ r.map f))) → lcL J all (gName i) tYes e γ D X0 Q r acc (up G0 D (.lst acc))
  | [], acc, _, _, h => ⟨hJ acc, up_same, by simpa using h⟩
  | w :: r, acc, hm, hl, h => by
    refine ⟨hJ acc, up_same, ?_⟩
    simp only [gName, tYes, if_true]
    refine he w (hm w (by simp)) acc _ ⟨up_same, ?_, ?_⟩
    · rw [List.length_cons] at hl; omega
    · rw [up_up]
      exact lcL_map f hJ he r (acc ++ [f w]) (fun z hz => hm z (by simp [hz])) (by simp only [List.length_cons, List.length_append, List.length_nil] at hl ⊢; omega) (by simpa using h)
/-- .. with a test -/
theorem lcL_filter {J : It} {all : List W} {i : Nat} {t : TT} {e : TE} {γ : Fr} {D : Nat} {Q : QV} {G0 : Gh} (p : W → Bool) (f : W → W) (hJ : ∀ acc, J (up G0 D (.lst acc)) = some all)
    (ht : ∀ w ∈ all, ∀ acc (K : Bool → Gh → Prop), K (p w) (up G0 D (.lst acc)) → t (put γ i w) (up G0 D (.lst acc)) X0 K)
    (he : ∀ w ∈ all, p w = true → ∀ acc (K : QV), K (f w) (up G0 D (.lst acc)) → e (put γ i w) (up G0 D (.lst acc)) X0 K) :
    ∀ (r acc : List W), (∀ w ∈ r, w ∈ all) → acc.length + r.length ≤ SZ → Q (.ref D) (up G0 D (.lst (acc ++ (r.filter p).map f))) → lcL J all (gName i) t e γ D X0 Q r acc (up G0 D (.lst acc))
  | [], acc, _, _, h => ⟨hJ acc, up_same, by simpa using h⟩
  | w :: r, acc, hm, hl, h => by
    refine ⟨hJ acc, up_same, ht w (hm w (by simp)) acc _ ?_⟩
    cases e1 : p w with
    | true =>
      rw [if_pos rfl]
      refine he w (hm w (by simp)) e1 acc _ ⟨up_same, ?_, ?_⟩
      · rw [List.length_cons] at hl; omega
      · rw [up_up]
        refine lcL_filter p f hJ ht he r (acc ++ [f w]) (fun z hz => hm z (by simp [hz])) (by simp only [List.length_cons, List.length_append, List.length_nil] at hl ⊢; omega) ?_
        rw [List.filter_cons, if_pos e1] at h
        simpa using h
    | false =>
      rw [if_neg (by decide)]
      refine lcL_filter p f hJ ht he r acc (fun z hz => hm z (by simp [hz])) (by simp only [List.length_cons] at hl; omega) ?_
      rw [List.filter_cons, if_neg (by rw [e1]; decide)] at h
      exact h
/-- a for by an invariant over what is left; F is what stands behind the turn -/
theorem forL_ind {J : It} {all : List W} {g : TG} {b : TS} {D : Ends} (I : List W → Fr → Gh → Prop) (hJ : ∀ r γ G, I r γ G → J G = some all) (hend : ∀ γ G, I [] γ G → D.nx γ G)
    (step : ∀ w r γ G, I (w :: r) γ G → ∀ F : Fr → Gh → Prop, (∀ γ' G', I r γ' G' → F γ' G') → g w γ G (fun γ' G' => b { D with nx := F, ct := F, bk := D.nx } γ' G')) : ∀ r γ G, I r γ G → forL J all g b D r γ G
  | [], γ, G, h => ⟨hJ _ γ G h, hend γ G h⟩
  | w :: r, γ, G, h => ⟨hJ _ γ G h, step w r γ G h _ fun γ' G' h' => forL_ind I hJ hend step r γ' G' h'⟩
/-- a while by an invariant and a number of turns that suffice -/
theorem whileN_ind {c : TT} {b : TS} {D : Ends} (I : Nat → Fr → Gh → Prop)
    (step : ∀ n γ G, I n γ G → ∀ F : Fr → Gh → Prop, (∀ m, n = m + 1 → ∀ γ' G', I m γ' G' → F γ' G') → c γ G (D.ex γ) fun k G1 => if k = true then b { D with nx := F, ct := F, bk := D.nx } γ G1 else D.nx γ G1) : ∀ n γ G, I n γ G → whileN c b D (n + 1) γ G
  | 0, γ, G, h => step 0 γ G h _ fun m e => by cases e
  | n + 1, γ, G, h => step (n + 1) γ G h _ fun m e γ' G' h' => by cases e; exact whileN_ind I step n γ' G' h'
/-- a comprehension by an invariant over what is left and what is made -/
theorem lcL_ind {J : It} {all : List W} {g : TG} {t : TT} {e : TE} {γ : Fr} {D : Nat} {E : XQ} {Q : QV} (I : List W → List W → Gh → Prop) (hJ : ∀ r acc G, I r acc G → J G = some all ∧ G D = some (.lst acc)) (hend : ∀ acc G, I [] acc G → Q (.ref D) G)
    (step : ∀ w r acc G, I (w :: r) acc G → ∀ F : List W → Gh → Prop, (∀ acc' G', I r acc' G' → F acc' G') → g w γ G fun γ2 G2 => t γ2 G2 E fun k G3 =>
      if k = true then e γ2 G3 E fun y G4 => G4 D = some (.lst acc) ∧ acc.length < SZ ∧ F (acc ++ [y]) (up G4 D (.lst (acc ++ [y]))) else F acc G3) : ∀ r acc G, I r acc G → lcL J all g t e γ D E Q r acc G
  | [], acc, G, h => ⟨(hJ _ _ _ h).1, (hJ _ _ _ h).2, hend acc G h⟩
  | w :: r, acc, G, h => ⟨(hJ _ _ _ h).1, (hJ _ _ _ h).2, step w r acc G h (fun acc' G' => lcL J all g t e γ D E Q r acc' G') fun acc' G' h' => lcL_ind I hJ hend step r acc' G' h'⟩
theorem rangeW_length (lo : Int) (n : Nat) : (rangeW lo n).length = n := by simp [rangeW]
theorem mem_rangeW {lo : Int} {n : Nat} {w : W} (h : w ∈ rangeW lo n) : ∃ i : Nat, i < n ∧ w = .int (lo + i) := by
  unfold rangeW at h
  obtain ⟨i, hi, rfl⟩ := List.mem_map.mp h
  exact ⟨i, List.mem_range.mp hi, rfl⟩
theorem rngOk_nat {n : Nat} (h : n ≤ SZ) : rngOk (n : Int) := by
  have h1 : (16777216 : Int) < 2 ^ 62 := by decide
  have h2 : (0 : Int) ≤ 2 ^ 62 := by decide
  simp at h
  exact ⟨by omega, by omega⟩
theorem rngOk_small {n : Int} (h0 : 0 ≤ n) (h : n ≤ 16777216) : rngOk n := by
  have h1 : (16777216 : Int) < 2 ^ 62 := by decide
  have h2 : (0 : Int) ≤ 2 ^ 62 := by decide
  exact ⟨by omega, by omega⟩
theorem at_nat {α : Type} {xs : List α} {i : Nat} {x : α} (e : xs[i]? = some x) : at_ xs (i : Int) = some x := by
  have hi : i < xs.length := (List.getElem?_eq_some_iff.mp e).1
  unfold at_ ixn
  rw [if_pos (by omega), Int.toNat_natCast, if_pos hi]
  exact e
theorem at_int {α : Type} {xs : List α} {i : Int} {x : α} (h0 : 0 ≤ i) (e : xs[i.toNat]? = some x) : at_ xs i = some x := by
  obtain ⟨n, rfl⟩ := Int.eq_ofNat_of_zero_le h0
  exact at_nat e
theorem at_last {α : Type} (xs : List α) (x : α) : at_ (xs ++ [x]) (-1) = some x := by
  unfold at_ ixn
  rw [if_neg (by decide), if_pos (by simp)]
  simp
/-- a for over the values of a list, by the number of turns done -/
theorem forX_ind {α : Type} {J : It} {all : List W} {g : TG} {b : TS} {D : Ends} (xs : List α) (f : α → W) (I : Nat → Fr → Gh → Prop) (hJ : ∀ i γ G, i ≤ xs.length → I i γ G → J G = some all) (hend : ∀ γ G, I xs.length γ G → D.nx γ G)
    (step : ∀ i x γ G, xs[i]? = some x → I i γ G → ∀ F : Fr → Gh → Prop, (∀ γ' G', I (i + 1) γ' G' → F γ' G') → g (f x) γ G (fun γ' G' => b { D with nx := F, ct := F, bk := D.nx } γ' G')) (γ : Fr) (G : Gh) (h : I 0 γ G) : forL J all g b D (xs.map f) γ G := by
  refine forL_ind (fun r γ G => ∃ i, i ≤ xs.length ∧ r = (xs.drop i).map f ∧ I i γ G) (fun r γ G ⟨i, hi, _, h⟩ => hJ i γ G hi h) ?_ ?_ _ _ _ ⟨0, Nat.zero_le _, rfl, h⟩
  · rintro γ G ⟨i, hi, e, h⟩
    have e2 : xs.drop i = [] := by
      cases q : xs.drop i with
      | nil => rfl
      | cons a r => rw [q] at e; cases e
    have : xs.length ≤ i := List.drop_eq_nil_iff.mp e2
    obtain rfl : i = xs.length := by omega
    exact hend γ G h
  · rintro w r γ G ⟨i, hi, e, h⟩ F hF
    cases q : xs.drop i with
    | nil => rw [q] at e; cases e
    | cons x r' =>
      rw [q, List.map_cons, List.cons.injEq] at e
      obtain ⟨rfl, rfl⟩ := e
      have hl : i < xs.length := by
        have := congrArg List.length q
        simp at this; omega
      have hx : xs[i]? = some x := by
        have := congrArg (fun l => l[0]?) q
        simpa using this
      have hr : r' = xs.drop (i + 1) := by
        have := congrArg List.tail q
        simpa using this.symm
      exact step i x γ G hx h F fun γ' G' h' => hF _ _ ⟨i + 1, hl, by rw [hr], h'⟩
theorem forR_ind {J : It} {all : List W} {g : TG} {b : TS} {D : Ends} {lo : Int} {n : Nat} (I : Nat → Fr → Gh → Prop) (hJ : ∀ i γ G, i ≤ n → I i γ G → J G = some all) (hend : ∀ γ G, I n γ G → D.nx γ G)
    (step : ∀ i γ G, i < n → I i γ G → ∀ F : Fr → Gh → Prop, (∀ γ' G', I (i + 1) γ' G' → F γ' G') → g (.int (lo + (i : Int))) γ G (fun γ' G' => b { D with nx := F, ct := F, bk := D.nx } γ' G')) (γ : Fr) (G : Gh) (h : I 0 γ G) : forL J all g b D (rangeW lo n) γ G := by
  refine forX_ind (List.range n) _ I (fun i γ G hi h => hJ i γ G (by simpa using hi) h) (fun γ G h => hend γ G (by simpa using h)) (fun i x γ G hx h F hF => ?_) γ G h
  have hx' := List.getElem?_eq_some_iff.mp hx
  obtain ⟨hi, rfl⟩ := hx'
  simp only [List.length_range] at hi
  simpa using step i γ G hi h F hF
/-- an object that was not there at the beginning is written -/
theorem Le.upd {G K : Gh} {p : Nat} {o : O} (l : Le G K) (h : G p = none) : Le G (L3.up K p o) := fun b u e => by
  rw [up_ne (ne_free' e h)]
  exact l b u e
/-- a comprehension of any target whose test and element change nothing -/
theorem lcL_gen {J : It} {all : List W} {g : TG} {t : TT} {e : TE} {γ : Fr} {D : Nat} {Q : QV} {G0 : Gh} (p : W → Bool) (f : W → W) (hJ : ∀ acc, J (up G0 D (.lst acc)) = some all)
    (hs : ∀ w ∈ all, ∀ acc (K1 : QV) (K0 : Gh → Prop), (p w = true → K1 (f w) (up G0 D (.lst acc))) → (p w = false → K0 (up G0 D (.lst acc))) → g w γ (up G0 D (.lst acc)) fun γ2 G2 => t γ2 G2 X0 fun k G3 => if k = true then e γ2 G3 X0 K1 else K0 G3) :
    ∀ (r acc : List W), (∀ w ∈ r, w ∈ all) → acc.length + r.length ≤ SZ → Q (.ref D) (up G0 D (.lst (acc ++ (r.filter p).map f))) → lcL J all g t e γ D X0 Q r acc (up G0 D (.lst acc))
  | [], acc, _, _, h => ⟨hJ acc, up_same, by simpa using h⟩
  | w :: r, acc, hm, hl, h => by
    refine ⟨hJ acc, up_same, hs w (hm w (by simp)) acc _ _ (fun e1 => ⟨up_same, ?_, ?_⟩) fun e1 => ?_⟩
    · rw [List.length_cons] at hl; omega
    · rw [up_up]
      refine lcL_gen p f hJ hs r (acc ++ [f w]) (fun z hz => hm z (by simp [hz])) (by simp only [List.length_cons, List.length_append, List.length_nil] at hl ⊢; omega) ?_
      rw [List.filter_cons, if_pos e1] at h
      simpa using h
    · refine lcL_gen p f hJ hs r acc (fun z hz => hm z (by simp [hz])) (by simp only [List.length_cons] at hl; omega) ?_
      rw [List.filter_cons, if_neg (by rw [e1]; decide)] at h
      exact h
end L3

end
section
set_option autoImplicit false
/-! L3LemB: comprehensions by values. -/
namespace L3
theorem items_new {x : W} {G : Gh} {all : List W} {D : Nat} {o : O} (h : items x G = some all) (hD : G D = none) : items x (up G D o) = some all := by
  cases x with
  | ref a =>
    simp only [items] at h ⊢
    cases e : G a with
    | none => rw [e] at h; cases h
    | some u => rw [up_ne (ne_free' e hD), e]; rw [e] at h; exact h
  | _ => exact h
theorem items_le {x : W} {G G' : Gh} {all : List W} (h : items x G = some all) (l : Le G G') : items x G' = some all := by
  cases x with
  | ref a =>
    simp only [items] at h ⊢
    cases e : G a with
    | none => rw [e] at h; cases h
    | some u => rw [l _ _ e]; rw [e] at h; exact h
  | _ => exact h
/-- [e for j in x], e changes nothing -/
theorem lc_val {ei e : TE} {j : Nat} {vs : List Nat} {x : W} {all : List W} {f : W → W} {γ : Fr} {G : Gh} {E : XQ} {Q : QV} (hx : ∀ K : QV, K x G → ei γ G E K) (hit : items x G = some all) (hl : all.length ≤ SZ)
    (he : ∀ w ∈ all, ∀ (G' : Gh) (K : QV), Le G G' → K (f w) G' → e (put (wipe γ vs) j w) G' X0 K) (k : ∀ p, G p = none → Q (.ref p) (up G p (.lst (all.map f)))) : eLc (iVal ei) (gName j) tYes e vs γ G E Q := by
  simp only [eLc, iVal]
  refine hx _ ⟨by rw [hit]; rfl, fun D hD => ⟨all, items_new hit hD, ?_⟩⟩
  refine lcL_map f (fun acc => items_new hit hD) (fun w hw acc K hK => he w hw _ K (.up hD) hK) all [] (fun w h => h) (by simpa using hl) ?_
  simpa using k D hD
/-- .. over the signs of a text -/
theorem lc_str {ei e : TE} {j : Nat} {vs : List Nat} {s : List Nat} {f : Nat → W} {γ : Fr} {G : Gh} {E : XQ} {Q : QV} (hx : ∀ K : QV, K (.str s) G → ei γ G E K) (hl : s.length ≤ SZ)
    (he : ∀ c ∈ s, ∀ (G' : Gh) (K : QV), Le G G' → K (f c) G' → e (put (wipe γ vs) j (.str [c])) G' X0 K) (k : ∀ p, G p = none → Q (.ref p) (up G p (.lst (s.map f)))) : eLc (iVal ei) (gName j) tYes e vs γ G E Q := by
  refine lc_val (x := .str s) (all := s.map fun c => W.str [c]) (f := fun w => match w with | .str [c] => f c | w => w) hx rfl (by simpa using hl) (fun w hw G' K l hK => ?_) fun p hp => ?_
  · obtain ⟨c, hc, rfl⟩ := List.mem_map.mp hw
    exact he c hc G' K l hK
  · rw [List.map_map]
    exact k p hp
/-- [e for j in x if t], t and e change nothing -/
theorem lc_valF {ei e : TE} {t : TT} {j : Nat} {vs : List Nat} {x : W} {all : List W} {q : W → Bool} {f : W → W} {γ : Fr} {G : Gh} {E : XQ} {Q : QV} (hx : ∀ K : QV, K x G → ei γ G E K) (hit : items x G = some all) (hl : all.length ≤ SZ)
    (ht : ∀ w ∈ all, ∀ (G' : Gh) (K : Bool → Gh → Prop), Le G G' → K (q w) G' → t (put (wipe γ vs) j w) G' X0 K)
    (he : ∀ w ∈ all, q w = true → ∀ (G' : Gh) (K : QV), Le G G' → K (f w) G' → e (put (wipe γ vs) j w) G' X0 K) (k : ∀ p, G p = none → Q (.ref p) (up G p (.lst ((all.filter q).map f)))) : eLc (iVal ei) (gName j) t e vs γ G E Q := by
  simp only [eLc, iVal]
  refine hx _ ⟨by rw [hit]; rfl, fun D hD => ⟨all, items_new hit hD, ?_⟩⟩
  refine lcL_filter q f (fun acc => items_new hit hD) (fun w hw acc K hK => ht w hw _ K (.up hD) hK) (fun w hw hq acc K hK => he w hw hq _ K (.up hD) hK) all [] (fun w h => h) (by simpa using hl) ?_
  simpa using k D hD
/-- .. e may make new objects -/
theorem lc_valL {ei e : TE} {j : Nat} {vs : List Nat} {x : W} {all : List W} {f : W → W} {γ : Fr} {G : Gh} {E : XQ} {Q : QV} (hx : ∀ K : QV, K x G → ei γ G E K) (hit : items x G = some all) (hl : all.length ≤ SZ)
    (he : ∀ w ∈ all, ∀ (G' : Gh) (K : QV), Le G G' → (∀ G2, Le G' G2 → K (f w) G2) → e (put (wipe γ vs) j w) G' X0 K) (k : ∀ p G', G p = none → Le G G' → G' p = some (.lst (all.map f)) → Q (.ref p) G') : eLc (iVal ei) (gName j) tYes e vs γ G E Q := by
  simp only [eLc, iVal]
  refine hx _ ⟨by rw [hit]; rfl, fun D hD => ⟨all, items_new hit hD, ?_⟩⟩
  refine lcL_ind (fun r acc G' => ∃ n, n ≤ all.length ∧ r = all.drop n ∧ acc = (all.take n).map f ∧ Le G G' ∧ G' D = some (.lst acc)) (fun r acc G' ⟨n, _, _, _, l, e1⟩ => ⟨items_le hit l, e1⟩) ?_ ?_ _ _ _ ⟨0, Nat.zero_le _, rfl, rfl, .up hD, up_same⟩
  · rintro acc G' ⟨n, hn, hr, rfl, l, e1⟩
    have : all.length ≤ n := List.drop_eq_nil_iff.mp hr.symm
    rw [List.take_of_length_le this] at e1
    exact k D G' hD l e1
  · rintro w r acc G' ⟨n, hn, hr, rfl, l, e1⟩ F hF
    have hlt : n < all.length := by
      have := congrArg List.length hr
      simp at this; omega
    rw [List.drop_eq_getElem_cons hlt, List.cons.injEq] at hr
    obtain ⟨rfl, rfl⟩ := hr
    simp only [gName, tYes, if_true]
    refine he _ (List.getElem_mem hlt) G' _ l fun G2 l2 => ⟨l2 _ _ e1, by rw [List.length_map, List.length_take]; omega, hF _ _ ⟨n + 1, hlt, rfl, ?_, (l.trans l2).upd hD, up_same⟩⟩
    rw [List.take_add_one, List.getElem?_eq_getElem hlt, List.map_append]
    rfl
/-- .. with a test; e may make new objects -/
theorem lc_valFL {ei e : TE} {t : TT} {j : Nat} {vs : List Nat} {x : W} {all : List W} {q : W → Bool} {f : W → W} {γ : Fr} {G : Gh} {E : XQ} {Q : QV} (hx : ∀ K : QV, K x G → ei γ G E K) (hit : items x G = some all) (hl : all.length ≤ SZ)
    (ht : ∀ w ∈ all, ∀ (G' : Gh) (K : Bool → Gh → Prop), Le G G' → K (q w) G' → t (put (wipe γ vs) j w) G' X0 K)
    (he : ∀ w ∈ all, q w = true → ∀ (G' : Gh) (K : QV), Le G G' → (∀ G2, Le G' G2 → K (f w) G2) → e (put (wipe γ vs) j w) G' X0 K) (k : ∀ p G', G p = none → Le G G' → G' p = some (.lst ((all.filter q).map f)) → Q (.ref p) G') : eLc (iVal ei) (gName j) t e vs γ G E Q := by
  simp only [eLc, iVal]
  refine hx _ ⟨by rw [hit]; rfl, fun D hD => ⟨all, items_new hit hD, ?_⟩⟩
  refine lcL_ind (fun r acc G' => ∃ n, n ≤ all.length ∧ r = all.drop n ∧ acc = ((all.take n).filter q).map f ∧ Le G G' ∧ G' D = some (.lst acc)) (fun r acc G' ⟨n, _, _, _, l, e1⟩ => ⟨items_le hit l, e1⟩) ?_ ?_ _ _ _ ⟨0, Nat.zero_le _, rfl, rfl, .up hD, up_same⟩
  · rintro acc G' ⟨n, hn, hr, rfl, l, e1⟩
    have : all.length ≤ n := List.drop_eq_nil_iff.mp hr.symm
    rw [List.take_of_length_le this] at e1
    exact k D G' hD l e1
  · rintro w r acc G' ⟨n, hn, hr, rfl, l, e1⟩ F hF
    have hlt : n < all.length := by
      have := congrArg List.length hr
      simp at this; omega
    rw [List.drop_eq_getElem_cons hlt, List.cons.injEq] at hr
    obtain ⟨rfl, rfl⟩ := hr
    have hlen : (((all.take n).filter q).map f).length < SZ := by
      rw [List.length_map]
      have := List.length_filter_le q (all.take n)
      rw [List.length_take] at this
      omega
    simp only [gName]
    refine ht _ (List.getElem_mem hlt) G' _ l ?_
    cases hq : q all[n] with
    | true =>
      rw [if_pos rfl]
      refine he _ (List.getElem_mem hlt) hq G' _ l fun G2 l2 => ⟨l2 _ _ e1, hlen, hF _ _ ⟨n + 1, hlt, rfl, ?_, (l.trans l2).upd hD, up_same⟩⟩
      rw [List.take_add_one, List.getElem?_eq_getElem hlt, List.filter_append, List.map_append]
      simp [hq]
    | false =>
      rw [if_neg (by decide)]
      refine hF _ _ ⟨n + 1, hlt, rfl, ?_, l, e1⟩
      rw [List.take_add_one, List.getElem?_eq_getElem hlt, List.filter_append, List.map_append]
      simp [hq]
/-- what stands in one heap stands in the other, as something -/
def Dom (G G' : Gh) : Prop := ∀ a, G' a = none → G a = none
theorem Dom.le {G G' : Gh} (l : Le G G') : Dom G G' := fun a h => by
  cases e : G a with
  | none => rfl
  | some o => rw [l _ _ e] at h; cases h
/-- what is new since G0 stays -/
def Stays (G0 G1 G2 : Gh) : Prop := ∀ a o, G0 a = none → G1 a = some o → G2 a = some o
/-- .. what is walked may be made new, and of what e hands back a relation is known -/
theorem lc_rel {ei e : TE} {j : Nat} {vs : List Nat} {all : List W} {P : Gh → Gh → W → W → Prop} {γ : Fr} {G : Gh} {E : XQ} {Q : QV}
    (hP1 : ∀ G0 G1 G2 w y, Stays G0 G1 G2 → P G0 G1 w y → P G0 G2 w y) (hP2 : ∀ G0 G1 G' w y, Dom G0 G1 → P G1 G' w y → P G0 G' w y)
    (hx : ∀ K : QV, (∀ G1 x, Le G G1 → items x G1 = some all → K x G1) → ei γ G E K) (hl : all.length ≤ SZ)
    (he : ∀ w ∈ all, ∀ (G' : Gh) (K : QV), Le G G' → (∀ G2 y, Le G' G2 → P G' G2 w y → K y G2) → e (put (wipe γ vs) j w) G' X0 K)
    (k : ∀ p G' ys, G p = none → Le G G' → G' p = some (.lst ys) → ys.length = all.length → (∀ (i : Nat) (w y : W), all[i]? = some w → ys[i]? = some y → P G G' w y) → Q (.ref p) G') : eLc (iVal ei) (gName j) tYes e vs γ G E Q := by
  simp only [eLc, iVal]
  refine hx _ fun G1 x l1 hit => ⟨by rw [hit]; rfl, fun D hD => ⟨all, items_new hit hD, ?_⟩⟩
  have hD0 : G D = none := Dom.le l1 D hD
  have d0 : Dom G (up G1 D (.lst [])) := fun a h => by
    by_cases e1 : a = D
    · rw [e1, up_same] at h; cases h
    · rw [up_ne e1] at h; exact Dom.le l1 a h
  refine lcL_ind (fun r acc G' => ∃ n, n ≤ all.length ∧ r = all.drop n ∧ acc.length = n ∧ (∀ (i : Nat) (w y : W), all[i]? = some w → acc[i]? = some y → P (up G1 D (.lst [])) G' w y) ∧ Le G1 G' ∧ G' D = some (.lst acc)) (fun r acc G' ⟨n, _, _, _, _, l, e1⟩ => ⟨items_le hit l, e1⟩) ?_ ?_ _ _ _
    ⟨0, Nat.zero_le _, rfl, rfl, fun i w y _ h => (by cases h), .up hD, up_same⟩
  · rintro acc G' ⟨n, hn, hr, ha, hp, l, e1⟩
    have : all.length ≤ n := List.drop_eq_nil_iff.mp hr.symm
    exact k D G' acc hD0 (l1.trans l) e1 (by omega) fun i w y h1 h2 => hP2 _ _ _ _ _ d0 (hp i w y h1 h2)
  · rintro w r acc G' ⟨n, hn, hr, ha, hp, l, e1⟩ F hF
    have hlt : n < all.length := by
      have := congrArg List.length hr
      simp at this; omega
    rw [List.drop_eq_getElem_cons hlt, List.cons.injEq] at hr
    obtain ⟨rfl, rfl⟩ := hr
    simp only [gName, tYes, if_true]
    refine he _ (List.getElem_mem hlt) G' _ (l1.trans l) fun G2 y l2 py => ⟨l2 _ _ e1, by omega, hF _ _ ⟨n + 1, hlt, rfl, by simp [ha], fun i w' y' hw hy => ?_, (l.trans l2).upd hD, up_same⟩⟩
    have dd : Dom (up G1 D (.lst [])) G' := fun a h => by
      by_cases e2 : a = D
      · rw [e2, e1] at h; cases h
      · rw [up_ne e2]; exact Dom.le l a h
    have su : ∀ G3 : Gh, Stays (up G1 D (.lst [])) G3 (up G3 D (.lst (acc ++ [y]))) := fun G3 a o h h2 => by
      have : a ≠ D := by rintro rfl; rw [up_same] at h; cases h
      rw [up_ne this]; exact h2
    refine hP1 _ _ _ _ _ (su G2) ?_
    by_cases hi : i < n
    · rw [List.getElem?_append_left (by omega)] at hy
      exact hP1 _ _ _ _ _ (fun a o _ h => l2 a o h) (hp i w' y' hw hy)
    · have hin : i = n := by
        have := (List.getElem?_eq_some_iff.mp hy).1
        simp at this; omega
      subst hin
      rw [List.getElem?_eq_getElem hlt] at hw
      cases hw
      rw [List.getElem?_append_right (by omega), ha, Nat.sub_self] at hy
      cases hy
      exact hP2 _ _ _ _ _ dd py
/-- the values of all, if none fails -/
def allM (f : W → Option W) : List W → Option (List W)
  | [] => some []
  | w :: r => (match f w with
    | some x => (allM f r).map (x :: ·)
    | none => none)
/-- [e for g in i], behind i: e hands back f of what is walked, or raises, and changes nothing of what stands -/
theorem lcx_run {g : TG} {e : TE} {vs : List Nat} {J : It} {all : List W} {f : W → Option W} {γ : Fr} {G : Gh} {E : XQ} {Q : QV} {C : W} (hJ : ∀ G', Le G G' → J G' = some all) (hl : all.length ≤ SZ)
    (hs : ∀ w ∈ all, ∀ (G' : Gh) (K : QV), Le G G' → (∀ v, f w = some v → ∀ G2, Le G' G2 → K v G2) → (f w = none → ∀ G2, Le G' G2 → E C [] G2) → g w (wipe γ vs) G' fun γ2 G2 => e γ2 G2 E K)
    (kE : allM f all = none → ∀ G', Le G G' → E C [] G') (k : ∀ p us G', allM f all = some us → G p = none → Le G G' → G' p = some (.lst us) → Q (.ref p) G') :
    ∀ D, G D = none → ∃ all, J (up G D (.lst [])) = some all ∧ lcL J all g tYes e (wipe γ vs) D E Q all [] (up G D (.lst [])) := by
  refine fun D hD => ⟨all, hJ _ (.up hD), ?_⟩
  have key : ∀ (r acc : List W) (G1 : Gh), (∀ w ∈ r, w ∈ all) → acc.length + r.length ≤ SZ → Le G G1 → G1 D = some (.lst acc) → (allM f r = none → allM f all = none) → (∀ us, allM f r = some us → allM f all = some (acc ++ us)) → lcL J all g tYes e (wipe γ vs) D E Q r acc G1 := by
    intro r
    induction r with
    | nil => intro acc G1 hm hz le e1 h1 h2; exact ⟨hJ G1 le, e1, k D acc G1 (by simpa using h2 [] rfl) hD le e1⟩
    | cons w r ih =>
      intro acc G1 hm hz le e1 h1 h2
      refine ⟨hJ G1 le, e1, ?_⟩
      have fin := hs w (hm w (by simp)) G1 (fun y G4 => G4 D = some (.lst acc) ∧ acc.length < SZ ∧ lcL J all g tYes e (wipe γ vs) D E Q r (acc ++ [y]) (up G4 D (.lst (acc ++ [y])))) le
        (fun v hv G2 l2 => ⟨l2 _ _ e1, by rw [List.length_cons] at hz; omega, ih (acc ++ [v]) _ (fun z hzz => hm z (by simp [hzz])) (by simp only [List.length_cons, List.length_append, List.length_nil] at hz ⊢; omega) ((le.trans l2).upd hD) up_same
          (fun q => h1 (by unfold allM; rw [hv, q]; rfl)) (fun us q => by rw [h2 (v :: us) (by unfold allM; rw [hv, q]; rfl)]; simp)⟩)
        (fun hn G2 l2 => kE (h1 (by unfold allM; rw [hn])) G2 (le.trans l2))
      exact fin
  exact key all [] _ (fun w h => h) (by simpa using hl) (.up hD) up_same (fun h => h) (fun us h => by simpa using h)
theorem splitN_mem {c : Nat} : ∀ {s w : List Nat}, w ∈ splitN c s → (∀ x ∈ w, x ∈ s ∧ x ≠ c) ∧ w.length ≤ s.length
  | [], w, h => by
    simp only [splitN, List.mem_singleton] at h
    subst h
    exact ⟨fun x h => (by cases h), Nat.le_refl _⟩
  | d :: r, w, h => by
    rw [splitN_cons] at h
    split at h
    · rename_i e
      rcases List.mem_cons.mp h with rfl | h
      · exact ⟨fun x h => (by cases h), Nat.zero_le _⟩
      · obtain ⟨h1, h2⟩ := splitN_mem h
        exact ⟨fun x hx => ⟨List.mem_cons_of_mem _ (h1 x hx).1, (h1 x hx).2⟩, by rw [List.length_cons]; omega⟩
    · rename_i e
      cases q : splitN c r with
      | nil => exact absurd q (splitN_ne c r)
      | cons p ps =>
        rw [q] at h
        simp only [consH] at h
        rcases List.mem_cons.mp h with rfl | h
        · obtain ⟨h1, h2⟩ := splitN_mem (c := c) (s := r) (w := p) (by rw [q]; simp)
          refine ⟨fun x hx => ?_, by simp only [List.length_cons]; omega⟩
          rcases List.mem_cons.mp hx with rfl | hx
          · exact ⟨by simp, e⟩
          · exact ⟨List.mem_cons_of_mem _ (h1 x hx).1, (h1 x hx).2⟩
        · obtain ⟨h1, h2⟩ := splitN_mem (c := c) (s := r) (w := w) (by rw [q]; simp [h])
          exact ⟨fun x hx => ⟨List.mem_cons_of_mem _ (h1 x hx).1, (h1 x hx).2⟩, by rw [List.length_cons]; omega⟩
theorem splitN_length {c : Nat} : ∀ s : List Nat, (splitN c s).length ≤ s.length + 1
  | [] => by simp [splitN]
  | d :: r => by
    have ih := splitN_length (c := c) r
    rw [splitN_cons]
    split
    · simp only [List.length_cons]; omega
    · cases q : splitN c r with
      | nil => exact absurd q (splitN_ne c r)
      | cons p ps => rw [q] at ih; simp only [consH, List.length_cons] at ih ⊢; omega
theorem splitN_no {c : Nat} : ∀ {s : List Nat}, c ∉ s → splitN c s = [s]
  | [], _ => rfl
  | d :: r, h => by
    rw [splitN_cons, if_neg (fun e => h (by rw [e]; simp)), splitN_no (fun z => h (List.mem_cons_of_mem _ z))]
    rfl
theorem splitN_app {c : Nat} : ∀ {s r : List Nat}, c ∉ s → splitN c (s ++ c :: r) = s :: splitN c r
  | [], r, _ => by rw [List.nil_append, splitN_cons, if_pos rfl]
  | d :: s, r, h => by
    rw [List.cons_append, splitN_cons, if_neg (fun e => h (by rw [e]; simp)), splitN_app (fun z => h (List.mem_cons_of_mem _ z))]
    rfl
theorem lookS_mem {d : KD} {k : List Nat} {v : W} (h : lookS d k = some v) : (k, v) ∈ d := by
  induction d with
  | nil => cases h
  | cons p r ih =>
    unfold lookS at h
    split at h
    · rename_i e
      cases h
      subst e
      exact List.mem_cons_self
    · exact List.mem_cons_of_mem _ (ih h)
/-! ### slices -/
theorem cut_from_ {α : Type} (xs : List α) {i : Int} (n : Nat) (e : i = (n : Int) := by rfl) : cut xs (some i) none = xs.drop n := by
  subst e
  unfold cut lo_ hi_ clip
  simp only
  rw [if_pos (by omega), Int.toNat_natCast, List.take_of_length_le (by rw [List.length_drop]; omega)]
  by_cases q : n ≤ xs.length
  · rw [Nat.min_eq_left q]
  · rw [Nat.min_eq_right (by omega), List.drop_of_length_le (by omega), List.drop_of_length_le (by omega)]
theorem cut_to_ {α : Type} (xs : List α) {i : Int} (n : Nat) (e : i = (n : Int) := by rfl) : cut xs none (some i) = xs.take n := by
  subst e
  unfold cut lo_ hi_ clip
  simp only
  rw [if_pos (by omega), Int.toNat_natCast, List.drop_zero, Nat.sub_zero]
  by_cases q : n ≤ xs.length
  · rw [Nat.min_eq_left q]
  · rw [Nat.min_eq_right (by omega), List.take_of_length_le (by omega), List.take_of_length_le (by omega)]
theorem cut_two {α : Type} (xs : List α) {i j : Int} (n m : Nat) (e : i = (n : Int) := by rfl) (e2 : j = (m : Int) := by rfl) : cut xs (some i) (some j) = (xs.take m).drop n := by
  subst e e2
  unfold cut lo_ hi_ clip
  simp only
  rw [if_pos (by omega), if_pos (by omega), Int.toNat_natCast, Int.toNat_natCast, List.drop_take]
  by_cases q : n ≤ xs.length
  · rw [Nat.min_eq_left (show n ≤ xs.length from q)]
    by_cases q2 : m ≤ xs.length
    · rw [Nat.min_eq_left q2]
    · rw [Nat.min_eq_right (by omega), List.take_of_length_le (by rw [List.length_drop]; omega), List.take_of_length_le (by rw [List.length_drop]; omega)]
  · rw [Nat.min_eq_right (show xs.length ≤ n by omega), List.drop_of_length_le (Nat.le_refl _), List.drop_of_length_le (by omega), List.take_nil, List.take_nil]
theorem cut_init {α : Type} (xs : List α) : cut xs none (some (-1)) = xs.dropLast := by
  unfold cut lo_ hi_ clip
  simp only
  rw [if_neg (by omega), List.drop_zero, Nat.sub_zero, show (-(-1 : Int)).toNat = 1 from rfl, List.dropLast_eq_take]
theorem cut_inner {α : Type} (xs : List α) (h : 2 ≤ xs.length) : cut xs (some 1) (some (-1)) = xs.tail.dropLast := by
  unfold cut lo_ hi_ clip
  dsimp only
  rw [if_neg (by decide), if_pos (by decide), show Int.toNat 1 = 1 from rfl, show (-(-1 : Int)).toNat = 1 from rfl, Nat.min_eq_left (by omega), List.dropLast_eq_take, List.length_tail, List.drop_one]
/-! ### one step of a reading, the rest kept folded -/
section
variable {γ : Fr} {G : Gh} {E : XQ}
theorem aCons_i {e : TE} {r : TA} {Q : List W → Gh → Prop} (h : e γ G E fun x G1 => r γ G1 E fun xs G2 => Q (x :: xs) G2) : aCons e r γ G E Q := h
theorem aConsC_i {w : W} {r : TA} {Q : List W → Gh → Prop} (h : r γ G E fun xs G2 => Q (w :: xs) G2) : aCons (eC w) r γ G E Q := h
theorem aConsV_i {i : Nat} {w : W} {r : TA} {Q : List W → Gh → Prop} (e : get γ i = some w) (h : r γ G E fun xs G2 => Q (w :: xs) G2) : aCons (eVar i) r γ G E Q := by
  simp only [aCons, eVar, e]; exact h
theorem aNil_i {Q : List W → Gh → Prop} (h : Q [] G) : aNil γ G E Q := h
theorem eTup_i {a : TA} {Q : QV} (h : a γ G E fun ws G1 => ws.length ≤ SZ ∧ Q (.tup ws) G1) : eTup a γ G E Q := h
theorem eLst_i {a : TA} {Q : QV} (h : a γ G E fun ws G1 => ws.length ≤ SZ ∧ ∀ p, G1 p = none → Q (.ref p) (up G1 p (.lst ws))) : eLst a γ G E Q := h
theorem eOp_i {r : R2} {a b : TE} {Q : QV} (h : a γ G E fun x G1 => b γ G1 E fun y G2 => r x y G2 Q) : eOp r a b γ G E Q := h
theorem eBlt_i {r : List W → Gh → QV → Prop} {a : TA} {Q : QV} (h : a γ G E fun ws G1 => r ws G1 Q) : eBlt r a γ G E Q := h
theorem eCall_i {sp : Sp} {a : TA} {Q : QV} (h : a γ G E fun ws G1 => sp ws G1 Q E) : eCall sp a γ G E Q := h
theorem eVar_i {i : Nat} {w : W} {Q : QV} (e : get γ i = some w) (h : Q w G) : eVar i γ G E Q := by simp only [eVar, e]; exact h
theorem eBm_i {T : String} {r : W → List W → Gh → QV → Prop} {o : TE} {a : TA} {x : W} {Q : QV} (h1 : ∀ K : QV, K x G → o γ G E K) (h2 : tyW T x G) (h3 : a γ G E fun ws G2 => r x ws G2 Q) : eBm T r o a γ G E Q := h1 _ ⟨h2, h3⟩
end
section
variable {D : Ends} {γ : Fr} {G : Gh}
theorem sSeq_i {t u : TS} (h : t { D with nx := u D } γ G) : sSeq t u D γ G := h
theorem sSet_i {i : Nat} {e : TE} (h : e γ G (D.ex γ) fun x G1 => D.nx (put γ i x) G1) : sSet i e D γ G := h
theorem sDrop_i {e : TE} (h : e γ G (D.ex γ) fun _ G1 => D.nx γ G1) : sDrop e D γ G := h
theorem sRet_i {e : TE} (h : e γ G (D.ex γ) D.rt) : sRet e D γ G := h
theorem sIf_i {c : TT} {t u : TS} (h : c γ G (D.ex γ) fun k G1 => if k = true then t D γ G1 else u D γ G1) : sIf c t u D γ G := h
end
/-! ### if x == "..": one branch, the others kept folded -/
section
variable {D : Ends} {γ : Fr} {G : Gh} {x l : List Nat} {e : TE} {t u R : TS}
theorem if_no (he : ∀ K : QV, K (.str x) G → e γ G (D.ex γ) K) (h : decide (x = l) = false) (k : u D γ G) : sIf (tV (eOp rEq e (eC (.str l)))) t u D γ G := by
  show e γ G (D.ex γ) _
  refine he _ ?_
  show (if decide (x = l) = true then _ else _)
  rw [h, if_neg (by decide)]
  exact k
theorem if_yes (he : ∀ K : QV, K (.str x) G → e γ G (D.ex γ) K) (h : decide (x = l) = true) (k : t D γ G) : sIf (tV (eOp rEq e (eC (.str l)))) t u D γ G := by
  show e γ G (D.ex γ) _
  refine he _ ?_
  show (if decide (x = l) = true then _ else _)
  rw [h, if_pos rfl]
  exact k
theorem sset_i {i : Nat} {w : W} (he : ∀ K : QV, K w G → e γ G (D.ex γ) K) (k : R D (put γ i w) G) : sSeq (sSet i e) R D γ G := he _ k
theorem seq_no (he : ∀ K : QV, K (.str x) G → e γ G (D.ex γ) K) (h : decide (x = l) = false) (k : R D γ G) : sSeq (sIf (tV (eOp rEq e (eC (.str l)))) t sNext) R D γ G := if_no (D := { D with nx := R D }) he h k
theorem seq_yes (he : ∀ K : QV, K (.str x) G → e γ G (D.ex γ) K) (h : decide (x = l) = true) (k : t { D with nx := R D } γ G) : sSeq (sIf (tV (eOp rEq e (eC (.str l)))) t u) R D γ G := if_yes (D := { D with nx := R D }) he h k
end
end L3

end
section
/-! L3Mode (C): what is known of an exception in the air: its class and its fields. -/
namespace L3
open PySem PySem.Spec PyProof.Rows L2
abbrev TkM (X : Cx) (W : WX) : Prop := L2.Takes X W
abbrev CXM (P : Program) (w : World) := L2.CX P w
def HotM (X : Cx) : Prop := True
section
variable {X : Cx} {W Wout : WX}
theorem tkM_imp {W' : WX} (t : TkM X W) (h : ∀ c d σ H, W' c d σ H → W c d σ H) : TkM X W' := Takes.imp t h
theorem tkM_call {pins : List (Addr × Obj)} {σ : L2.St} {H : Hp} {s s' : Shared} {E : XK} {u : Value} (tk : TkM X W) (I : Inv X pins σ H s) (hW : ∀ cls d H', E cls d H' → W cls d σ H') (c : CXM X.prog X.w X.stack H s E u s') : X.xe u s' := tk _ _ (XE.of_call I hW c)
theorem tkM_of {E : XK} (hs : X.stack = X.env :: X.outer) (hf : X.env.frame = some X.env.locals) (hex : X.ex = []) {E₁ : Value → Shared → Prop}
    (hx : X.xe = fun e s' => wpAny (model X.prog X.w) X.A (leaving X.env e) (fun _ s'' => CXM X.prog X.w X.outer X.H_0 X.s_0 E e s'') E₁ s') : TkM X (fun cls d _ H => E cls d H) := takes_of hs hf hex hx
theorem ps_raiseM {x m : Str} {C : Addr} {B newId initId : String} {bm : List Value} {j : Nat} {p p2 cpos pos : Pos} (hc : X.calm = true) (tk : TkM X W) (F : ExcBaseFacts B newId initId bm) (q : PySem.W.excIn X.K C bm newId = true) (gC : X.mg x = some (.ref C)) (kC : PySem.W.keepIn X.K (.ref C) = true) (r : Raises X (.ref C)) (hg : Gl X x)
    (hdb : (x == ("__debug__" : Str)) = false) : PS X (.Raise (some (.Call (.Name x p) [.Constant (.str m) j p2] [] cpos)) none pos) (fun _ σ H => W (.ref C) none σ H) := ps_raise hc tk (pmk_own F q gC kC r hg hdb)
variable {x n : Str} {c : Value} {i : Nat} {body suite : List Stmt} {b₀ : Stmt} {np pos pos' : Pos} {tb : WX → L2.TS} {ts : Addr → Value → Option Addr → L2.TS}
theorem ps_tryM (hs : X.stack = X.env :: X.outer) (hf : X.env.frame = some X.env.locals) (hc : Names X x c) (tk : TkM X Wout)
    (hb : ∀ (W : WX) (pn : List (Addr × Obj)) (xe : Value → Shared → Prop), TkM (X.tr pn xe) W → PassesOwn (model X.prog X.w) X.A X.env xe → PSs (X.tr pn xe) body (tb W))
    (hsu : ∀ (a : Addr) (oe : Obj) (cls : Value) (d : Option Addr) (pn : List (Addr × Obj)), Zc cls d oe → (∃ vs, oe.data = .fields vs) → HotM (X.suite a ((a, oe) :: pn)) → PSs (X.suite a ((a, oe) :: pn)) (b₀ :: suite) (ts a cls d)) :
    PS X (.Try body [.ExceptHandler (some (.Name x np)) none (b₀ :: suite) pos'] [] [] pos) (fun D σ H => tb (wOnly X.K c ts Wout D) D σ H) :=
  ps_try_only hs hf hc tk hb fun a oe cls d pn hz hv => hsu a oe cls d pn hz hv trivial
theorem ps_tryAsM (hs : X.stack = X.env :: X.outer) (hf : X.env.frame = some X.env.locals) (hN : X.N.Nodup) (hi : X.N[i]? = some n) (hln : X.env.kindOf n = some .local) (hc : Names X x c) (tk : TkM X Wout)
    (hb : ∀ (W : WX) (pn : List (Addr × Obj)) (xe : Value → Shared → Prop), TkM (X.tr pn xe) W → PassesOwn (model X.prog X.w) X.A X.env xe → PSs (X.tr pn xe) body (tb W))
    (hsu : ∀ (a : Addr) (oe : Obj) (cls : Value) (d : Option Addr) (pn : List (Addr × Obj)), Zc cls d oe → (∃ vs, oe.data = .fields vs) → HotM (X.suite a ((a, oe) :: pn)) → PSs (X.suite a ((a, oe) :: pn)) (b₀ :: suite) (ts a cls d)) :
    PS X (.Try body [.ExceptHandler (some (.Name x np)) (some n) (b₀ :: suite) pos'] [] [] pos) (fun D σ H => tb (wAs X.K c i ts Wout D) D σ H) :=
  ps_try_as hs hf hN hi hln hc tk hb fun a oe cls d pn hz hv => hsu a oe cls d pn hz hv trivial
end
section
variable {X : Cx} {W : WX} {e : Expr} {es : List Expr} {ta : L2.TA} {p pos : Pos}
abbrev PMkM (X : Cx) (e : Expr) (t : L2.St → Hp → XK → Prop) : Prop := L2.PMk X e t
theorem ps_raisePM {t : L2.St → Hp → XK → Prop} (hc : X.calm = true) (tk : TkM X W) (he : PMkM X e t) : PS X (.Raise (some e) none pos) (fun _ σ H => t σ H fun cls d H' => W cls d σ H') := L2.ps_raise hc tk he
theorem pmk_oexM {CX : CXT} {x : Str} {C fI : Addr} {k : Nat} {fd : FuncData} {ps : List Str} {sp : L2.Sp} (T : OexC X.K C) (iC : PySem.W.findIn X.K (.ref C) "__init__" = some (some (.ref fI))) (tI : PySem.W.typeIn X.K (.ref fI) = some (.type "function"))
    (F1 : FnOk X.prog X.w X.K X.mg X.base CX k fI fd ps sp) (hr : Room (k + 1) X.A) (hb : Binds X.K fd ps []) (hx : Passes CX X (fun _ _ _ => False)) (hg : Gl X x) (hm : X.mg x = some (.ref C)) (ha : PA X (e :: es) ta)
    (hdb : (x == ("__debug__" : Str)) = false := by decide) (he : starEach (e :: es) X.env = (false, eval e X.env) :: starEach es X.env := by rfl) (hpl : (backTo pos (starEach es X.env)).any (·.1) = false := by rfl) :
    PMkM X (.Call (.Name x p) (e :: es) [] pos) (tMkO C sp [] ta) := pmk_oex T iC tI F1 hr hb .nil hx hg hm ha hdb he hpl
end
end L3

end
section
/-! L3SndA: values with tuples by value, the heap of what can change, judgements over the hand layer's. -/
namespace L3
open PySem PySem.Spec PyProof.Rows L2

abbrev Frag := PySem.W.Frag

mutual
def Rep (K : Frag) (H : Hp) : W → V → Prop
  | .non, v => v = .non
  | .bl b, v => v = .bl b
  | .int i, v => v = .int i
  | .str x, v => v = .str ⟨x.toArray⟩
  | .ref a, v => v = .ref a
  | .ty n, v => v = .ty n
  | .tup ws, v => ∃ a xs, v = .ref a ∧ H a = some (.tup xs) ∧ RepL K H ws xs
  | .ktp ws, v => ∃ a xs, v = .ref a ∧ SqT K (fun _ => none) a xs ∧ RepL K H ws xs
  | .kl ws, v => ∃ a xs, v = .ref a ∧ SqL K (fun _ => none) a xs ∧ RepL K H ws xs
def RepL (K : Frag) (H : Hp) : List W → List V → Prop
  | [], vs => vs = []
  | w :: ws, vs => ∃ v r, vs = v :: r ∧ Rep K H w v ∧ RepL K H ws r
end

/-- every tuple that could be read can be read still -/
def Ext (K : Frag) (H H' : Hp) : Prop := ∀ a xs, (SqT K H a xs → SqT K H' a xs) ∧ (H a = some (.tup xs) → H' a = some (.tup xs)) ∧ ∀ o u, H a = some (.frz o u) → H' a = some (.frz o u)
section
variable {K : Frag} {H H1 H2 : Hp}
theorem Ext.refl : Ext K H H := fun _ _ => ⟨fun h => h, fun h => h, fun _ _ h => h⟩
theorem Ext.trans (a : Ext K H H1) (b : Ext K H1 H2) : Ext K H H2 := fun c xs => ⟨fun h => (b c xs).1 ((a c xs).1 h), fun h => (b c xs).2.1 ((a c xs).2.1 h), fun o u h => (b c xs).2.2 o u ((a c xs).2.2 o u h)⟩
theorem Ext.new {p : Addr} {o : HO} (hp : H p = none) : Ext K H (upd H p o) := fun a xs => by
  refine ⟨fun h => ?_, fun h => by rw [upd_ne (fun z => by rw [z, hp] at h; cases h)]; exact h, fun o u h => by rw [upd_ne (fun z => by rw [z, hp] at h; cases h)]; exact h⟩
  have ne : ∀ u, H a = some u → a ≠ p := fun u e z => by rw [z, hp] at e; cases e
  rcases h with (h | ⟨o, h⟩) | h
  · exact .inl (.inl (by rw [upd_ne (ne _ h)]; exact h))
  · exact .inl (.inr ⟨o, by rw [upd_ne (ne _ h)]; exact h⟩)
  · exact .inr h
theorem Ext.write {p : Addr} {o : HO} (hp : Mut (H p)) : Ext K H (upd H p o) := fun a xs => by
  refine ⟨fun h => ?_, fun h => by rw [upd_ne (fun z => by rw [← z, h] at hp; exact hp)]; exact h, fun o u h => by rw [upd_ne (fun z => by rw [← z, h] at hp; exact hp)]; exact h⟩
  have ne : ∀ u, H a = some u → ¬ Mut (some u) → a ≠ p := fun u e n z => by rw [← z, e] at hp; exact n hp
  rcases h with (h | ⟨o, h⟩) | h
  · exact .inl (.inl (by rw [upd_ne (ne _ h fun z => z)]; exact h))
  · exact .inl (.inr ⟨o, by rw [upd_ne (ne _ h fun z => z)]; exact h⟩)
  · exact .inr h
/-- the tracked tuples stay -/
def KpT (H H1 : Hp) : Prop := ∀ a xs, H a = some (.tup xs) → H1 a = some (.tup xs)
theorem Ext.t (x : Ext K H H1) : KpT H H1 := fun a xs => (x a xs).2.1
mutual
theorem Rep.extT (x : KpT H H1) : ∀ {w : W} {v : V}, Rep K H w v → Rep K H1 w v
  | .non, _, h => by simpa only [Rep] using h
  | .bl _, _, h => by simpa only [Rep] using h
  | .int _, _, h => by simpa only [Rep] using h
  | .str _, _, h => by simpa only [Rep] using h
  | .ref _, _, h => by simpa only [Rep] using h
  | .ty _, _, h => by simpa only [Rep] using h
  | .tup ws, _, h => by
    simp only [Rep] at h ⊢
    obtain ⟨a, xs, e, s, r⟩ := h
    exact ⟨a, xs, e, x a xs s, RepL.extT x r⟩
  | .ktp ws, _, h => by
    simp only [Rep] at h ⊢
    obtain ⟨a, xs, e, s, r⟩ := h
    exact ⟨a, xs, e, s, RepL.extT x r⟩
  | .kl ws, _, h => by
    simp only [Rep] at h ⊢
    obtain ⟨a, xs, e, s, r⟩ := h
    exact ⟨a, xs, e, s, RepL.extT x r⟩
theorem RepL.extT (x : KpT H H1) : ∀ {ws : List W} {vs : List V}, RepL K H ws vs → RepL K H1 ws vs
  | [], _, h => by simpa only [RepL] using h
  | w :: ws, _, h => by
    simp only [RepL] at h ⊢
    obtain ⟨v, r, e, a, b⟩ := h
    exact ⟨v, r, e, Rep.extT x a, RepL.extT x b⟩
end
theorem Rep.ext (x : Ext K H H1) {w : W} {v : V} (h : Rep K H w v) : Rep K H1 w v := h.extT x.t
theorem RepL.ext (x : Ext K H H1) {ws : List W} {vs : List V} (h : RepL K H ws vs) : RepL K H1 ws vs := RepL.extT x.t h
theorem RepL.cons {w : W} {ws : List W} {v : V} {vs : List V} (a : Rep K H w v) (b : RepL K H ws vs) : RepL K H (w :: ws) (v :: vs) := by
  simp only [RepL]; exact ⟨v, vs, rfl, a, b⟩
theorem RepL.nil : RepL K H [] [] := by simp only [RepL]
theorem RepL.length : ∀ {ws : List W} {vs : List V}, RepL K H ws vs → ws.length = vs.length
  | [], _, h => by simp only [RepL] at h; subst h; rfl
  | w :: ws, _, h => by
    simp only [RepL] at h
    obtain ⟨v, r, e, a, b⟩ := h
    subst e
    simp only [List.length_cons, RepL.length b]
theorem RepL.get : ∀ {ws : List W} {vs : List V} {i : Nat} {w : W}, RepL K H ws vs → ws[i]? = some w → ∃ v, vs[i]? = some v ∧ Rep K H w v
  | [], _, i, w, h, e => by simp at e
  | w :: ws, _, 0, w', h, e => by
    simp only [RepL] at h
    obtain ⟨v, r, e', a, b⟩ := h
    subst e'
    simp at e
    subst e
    exact ⟨v, rfl, a⟩
  | w :: ws, _, i + 1, w', h, e => by
    simp only [RepL] at h
    obtain ⟨v, r, e', a, b⟩ := h
    subst e'
    obtain ⟨v', h1, h2⟩ := RepL.get (i := i) b (by simpa using e)
    exact ⟨v', by simpa using h1, h2⟩
theorem RepL.append : ∀ {ws zs : List W} {vs us : List V}, RepL K H ws vs → RepL K H zs us → RepL K H (ws ++ zs) (vs ++ us)
  | [], _, _, _, h, h' => by simp only [RepL] at h; subst h; exact h'
  | w :: ws, _, _, _, h, h' => by
    simp only [RepL] at h
    obtain ⟨v, r, e, a, b⟩ := h
    subst e
    exact RepL.cons a (RepL.append b h')
theorem RepL.one {w : W} {v : V} (a : Rep K H w v) : RepL K H [w] [v] := .cons a .nil
theorem RepL.drop : ∀ {ws : List W} {vs : List V} (n : Nat), RepL K H ws vs → RepL K H (ws.drop n) (vs.drop n)
  | ws, vs, 0, h => by simpa using h
  | [], _, _ + 1, h => by simp only [RepL] at h; subst h; exact .nil
  | w :: ws, _, n + 1, h => by
    simp only [RepL] at h
    obtain ⟨v, r, e, a, b⟩ := h
    subst e
    exact RepL.drop n b
theorem RepL.take : ∀ {ws : List W} {vs : List V} (n : Nat), RepL K H ws vs → RepL K H (ws.take n) (vs.take n)
  | ws, vs, 0, h => by simp only [List.take_zero]; exact .nil
  | [], _, _ + 1, h => by simp only [RepL] at h; subst h; exact .nil
  | w :: ws, _, n + 1, h => by
    simp only [RepL] at h
    obtain ⟨v, r, e, a, b⟩ := h
    subst e
    exact .cons a (RepL.take n b)
theorem RepL.set : ∀ {ws : List W} {vs : List V} {w : W} {v : V} (i : Nat), RepL K H ws vs → Rep K H w v → RepL K H (ws.set i w) (vs.set i v)
  | [], _, _, _, _, h, _ => by simp only [RepL] at h; subst h; exact .nil
  | w :: ws, _, _, _, 0, h, q => by
    simp only [RepL] at h
    obtain ⟨v, r, e, a, b⟩ := h
    subst e
    exact .cons q b
  | w :: ws, _, _, _, i + 1, h, q => by
    simp only [RepL] at h
    obtain ⟨v, r, e, a, b⟩ := h
    subst e
    exact .cons a (RepL.set i b q)
theorem RepL.reverse : ∀ {ws : List W} {vs : List V}, RepL K H ws vs → RepL K H ws.reverse vs.reverse
  | [], _, h => by simp only [RepL] at h; subst h; exact .nil
  | w :: ws, _, h => by
    simp only [RepL] at h
    obtain ⟨v, r, e, a, b⟩ := h
    subst e
    rw [List.reverse_cons, List.reverse_cons]
    exact RepL.append (RepL.reverse b) (.one a)
theorem RepL.dropLast {ws : List W} {vs : List V} (h : RepL K H ws vs) : RepL K H ws.dropLast vs.dropLast := by
  rw [List.dropLast_eq_take, List.dropLast_eq_take, h.length]
  exact h.take _
theorem RepL.eraseIdx : ∀ {ws : List W} {vs : List V} (i : Nat), RepL K H ws vs → RepL K H (ws.eraseIdx i) (vs.eraseIdx i)
  | [], _, _, h => by simp only [RepL] at h; subst h; exact .nil
  | w :: ws, _, 0, h => by
    simp only [RepL] at h
    obtain ⟨v, r, e, a, b⟩ := h
    subst e
    exact b
  | w :: ws, _, i + 1, h => by
    simp only [RepL] at h
    obtain ⟨v, r, e, a, b⟩ := h
    subst e
    exact .cons a (RepL.eraseIdx i b)
theorem RepL.ints : ∀ {ns : List Int} {vs : List V}, RepL K H (ns.map W.int) vs → vs = ns.map V.int
  | [], _, h => by simpa only [RepL, List.map_nil] using h
  | n :: ns, _, h => by
    simp only [RepL, List.map_cons, Rep] at h
    obtain ⟨v, r, e, a, b⟩ := h
    subst e a
    rw [RepL.ints b]; rfl
theorem RepL.of_ints : ∀ {ns : List Int}, RepL K H (ns.map W.int) (ns.map V.int)
  | [] => .nil
  | n :: ns => .cons (by simp only [Rep]) RepL.of_ints
theorem RepL.bools : ∀ {ns : List Bool} {vs : List V}, RepL K H (ns.map W.bl) vs → vs = ns.map V.bl
  | [], _, h => by simpa only [RepL, List.map_nil] using h
  | n :: ns, _, h => by
    simp only [RepL, List.map_cons, Rep] at h
    obtain ⟨v, r, e, a, b⟩ := h
    subst e a
    rw [RepL.bools b]; rfl
def S (l : List Nat) : Str := ⟨l.toArray⟩
theorem RepL.strs : ∀ {ns : List (List Nat)} {vs : List V}, RepL K H (ns.map W.str) vs → vs = (ns.map S).map V.str
  | [], _, h => by simpa only [RepL, List.map_nil] using h
  | n :: ns, _, h => by
    simp only [RepL, List.map_cons, Rep] at h
    obtain ⟨v, r, e, a, b⟩ := h
    subst e a
    rw [RepL.strs b]; rfl
end

/-! ### strings as lists of codes -/
theorem S_length (l : List Nat) : (S l).length = l.length := by simp [S, Str.length]
theorem S_append (l m : List Nat) : S l ++ S m = S (l ++ m) := by
  show Str.append _ _ = _
  simp [S, Str.append]
theorem S_inj {l m : List Nat} (h : S l = S m) : l = m := by
  unfold S at h
  injection h with h
  simpa using congrArg Array.toList h
theorem S_inj_iff {l m : List Nat} : S l = S m ↔ l = m := ⟨S_inj, fun h => by rw [h]⟩
theorem S_toList (l : List Nat) : (S l).cps.toList = l := by simp [S]
theorem S_of (x : Str) : S x.cps.toList = x := by cases x; simp [S]

/-! ### the heap -/
def keyW : Key → W
  | .inl i => .int i
  | .inr x => .str x.cps.toList
def RepKV {κ : Type} (f : κ → W) (K : Frag) (H : Hp) : List (W × W) → List (κ × V) → Prop
  | [], vs => vs = []
  | w :: ws, vs => ∃ v r, vs = v :: r ∧ w.1 = f v.1 ∧ Rep K H w.2 v.2 ∧ RepKV f K H ws r
def RepF (K : Frag) (H : Hp) (ns : List (List Nat)) (ws : List W) (fs : List (Str × V)) : Prop :=
  fs.map (·.1) = (ns.map S).take ws.length ∧ RepL K H ws (fs.map (·.2)) ∧ ws.length ≤ ns.length ∧ ns.Nodup

def RelO (K : Frag) (H : Hp) (a : Addr) : O → Prop
  | .lst ws => ∃ xs, H a = some (.lst xs) ∧ RepL K H ws xs
  | .dct kvs => ∃ ks, H a = some (.dK ks) ∧ RepKV keyW K H kvs ks
  | .dtt kvs => ∃ ks, H a = some (.dT ks) ∧ RepKV (fun k => W.tup (k.map keyW)) K H kvs ks
  | .ins C ns ws => ∃ dx fs, H a = some (.ins C dx fs) ∧ RepF K H ns ws fs
  | .rdl ws => ∃ o xs, H a = some (.frz o (.lst xs)) ∧ RepL K H ws xs
  | .exo _ ns ws => ∃ fs, H a = some (.xd fs) ∧ fs.map (·.1) = (ns.map S).reverse ∧ RepL K H ws.reverse (fs.map (·.2)) ∧ ns.Nodup ∧ ws.length = ns.length
  | .rdc kvs => ∃ o ks, H a = some (.frz o (.dK ks)) ∧ RepKV keyW K H kvs ks
  | .rdt kvs => ∃ o ks, H a = some (.frz o (.dT ks)) ∧ RepKV (fun k => W.tup (k.map keyW)) K H kvs ks
def Rel (K : Frag) (H : Hp) (G : Gh) : Prop := ∀ a o, G a = some o → RelO K H a o
section
variable {K : Frag} {H H1 : Hp} {G : Gh} {a : Addr}
theorem RepKV.extT {κ : Type} {f : κ → W} (x : KpT H H1) : ∀ {ws : List (W × W)} {vs : List (κ × V)}, RepKV f K H ws vs → RepKV f K H1 ws vs
  | [], _, h => h
  | w :: ws, _, h => by
    obtain ⟨v, r, e, a, b, c⟩ := h
    exact ⟨v, r, e, a, b.extT x, RepKV.extT x c⟩
theorem RepKV.ext {κ : Type} {f : κ → W} (x : Ext K H H1) {ws : List (W × W)} {vs : List (κ × V)} (h : RepKV f K H ws vs) : RepKV f K H1 ws vs := RepKV.extT x.t h
theorem RepKV.length {κ : Type} {f : κ → W} : ∀ {ws : List (W × W)} {vs : List (κ × V)}, RepKV f K H ws vs → ws.length = vs.length
  | [], _, h => by cases h; rfl
  | w :: ws, _, h => by
    obtain ⟨v, r, rfl, a, b, c⟩ := h
    simp only [List.length_cons, RepKV.length c]
/-- an object stays what it is where its own place stays -/
theorem RelO.extT {o : O} (x : KpT H H1) (e : H1 a = H a) (h : RelO K H a o) : RelO K H1 a o := by
  cases o with
  | lst ws => obtain ⟨xs, h1, h2⟩ := h; exact ⟨xs, e.trans h1, h2.extT x⟩
  | dct kvs => obtain ⟨ks, h1, h2⟩ := h; exact ⟨ks, e.trans h1, h2.extT x⟩
  | dtt kvs => obtain ⟨ks, h1, h2⟩ := h; exact ⟨ks, e.trans h1, h2.extT x⟩
  | ins C ns ws => obtain ⟨dx, fs, h1, h2, h3, h4⟩ := h; exact ⟨dx, fs, e.trans h1, h2, h3.extT x, h4⟩
  | rdl ws => obtain ⟨o, xs, h1, h2⟩ := h; exact ⟨o, xs, e.trans h1, h2.extT x⟩
  | exo C ns ws => obtain ⟨fs, h1, h2, h3, h4⟩ := h; exact ⟨fs, e.trans h1, h2, h3.extT x, h4⟩
  | rdc ws => obtain ⟨o, xs, h1, h2⟩ := h; exact ⟨o, xs, e.trans h1, h2.extT x⟩
  | rdt ws => obtain ⟨o, xs, h1, h2⟩ := h; exact ⟨o, xs, e.trans h1, h2.extT x⟩
theorem RelO.ext {o : O} (x : Ext K H H1) (e : H1 a = H a) (h : RelO K H a o) : RelO K H1 a o := h.extT x.t e
theorem RelO.dom {o : O} (h : RelO K H a o) : H a ≠ none := by
  cases o with
  | lst ws => obtain ⟨xs, h1, h2⟩ := h; rw [h1]; exact fun z => by cases z
  | dct kvs => obtain ⟨xs, h1, h2⟩ := h; rw [h1]; exact fun z => by cases z
  | dtt kvs => obtain ⟨xs, h1, h2⟩ := h; rw [h1]; exact fun z => by cases z
  | ins C ns ws => obtain ⟨dx, fs, h1, h2⟩ := h; rw [h1]; exact fun z => by cases z
  | rdl ws => obtain ⟨o, xs, h1, h2⟩ := h; rw [h1]; exact fun z => by cases z
  | exo C ns ws => obtain ⟨fs, h1, h2⟩ := h; rw [h1]; exact fun z => by cases z
  | rdc ws => obtain ⟨o, xs, h1, h2⟩ := h; rw [h1]; exact fun z => by cases z
  | rdt ws => obtain ⟨o, xs, h1, h2⟩ := h; rw [h1]; exact fun z => by cases z
/-- what G tracks and is not read-only stands in H, and is mutable -/
def roO : O → Bool
  | .rdl _ => true
  | .rdc _ => true
  | .rdt _ => true
  | .exo _ _ _ => true
  | _ => false
theorem RelO.mut {o : O} (h : RelO K H a o) (n : roO o = false) : Mut (H a) := by
  cases o with
  | lst ws => obtain ⟨xs, h1, h2⟩ := h; rw [h1]; trivial
  | dct kvs => obtain ⟨xs, h1, h2⟩ := h; rw [h1]; trivial
  | dtt kvs => obtain ⟨xs, h1, h2⟩ := h; rw [h1]; trivial
  | ins C ns ws => obtain ⟨dx, fs, h1, h2⟩ := h; rw [h1]; trivial
  | rdl ws => cases n
  | exo C ns ws => cases n
  | rdc ws => cases n
  | rdt ws => cases n
theorem Rel.write {p : Addr} {ho : HO} {o : O} (R : Rel K H G) (m : Mut (H p)) (q : RelO K (upd H p ho) p o) : Rel K (upd H p ho) (up G p o) := fun b u e => by
  by_cases hb : b = p
  · subst hb; rw [up_same] at e; cases e; exact q
  · rw [up_ne hb] at e
    exact (R b u e).ext (Ext.write m) (upd_ne hb)
theorem Rel.free {p : Addr} (R : Rel K H G) (hp : H p = none) : G p = none := by
  cases e : G p with
  | none => rfl
  | some o => exact absurd hp (R p o e).dom
theorem Rel.new {p : Addr} {ho : HO} {o : O} (R : Rel K H G) (hp : H p = none) (q : RelO K (upd H p ho) p o) : Rel K (upd H p ho) (up G p o) := fun b u e => by
  by_cases hb : b = p
  · subst hb; rw [up_same] at e; cases e; exact q
  · rw [up_ne hb] at e
    exact (R b u e).ext (Ext.new hp) (upd_ne hb)
/-- a new object that G does not track (a tuple) -/
theorem Rel.hid {p : Addr} {ho : HO} (R : Rel K H G) (hp : H p = none) : Rel K (upd H p ho) G := fun b u e => by
  have hb : b ≠ p := fun z => by rw [z, R.free hp] at e; cases e
  exact (R b u e).ext (Ext.new hp) (upd_ne hb)
theorem Rel.lst {p : Addr} {ws : List W} (R : Rel K H G) (e : G p = some (.lst ws)) : ∃ xs, H p = some (.lst xs) ∧ RepL K H ws xs := R p _ e
theorem Rel.seq {p : Addr} {ws : List W} (R : Rel K H G) (e : G p = some (.lst ws) ∨ G p = some (.rdl ws)) : ∃ xs, SqL K H p xs ∧ RepL K H ws xs := by
  rcases e with e | e
  · obtain ⟨xs, h1, h2⟩ := R p _ e; exact ⟨xs, .inl (.inl h1), h2⟩
  · obtain ⟨o, xs, h1, h2⟩ := R p _ e; exact ⟨xs, .inl (.inr ⟨o, h1⟩), h2⟩
theorem Rel.forget {G' : Gh} (R : Rel K H G) (h : ∀ a o, G' a = some o → G a = some o) : Rel K H G' := fun a o e => R a o (h a o e)
end
end L3

end
section
/-! L3SndB: the judgements of L3 over those of the hand layer; names, constants, statements, loops. -/
namespace L3
open PySem PySem.Spec PyProof.Rows L2
abbrev St := L2.St

def RepQ (K : Frag) (H : Hp) : Fr → St → Prop
  | [], σ => σ = []
  | g :: γ, σ => ∃ s r, σ = s :: r ∧ (∀ w, g = some w → ∃ v, s = some v ∧ Rep K H w v) ∧ RepQ K H γ r
section
variable {K : Frag} {H H1 : Hp}
theorem RepQ.extT (x : KpT H H1) : ∀ {γ : Fr} {σ : St}, RepQ K H γ σ → RepQ K H1 γ σ
  | [], _, h => h
  | g :: γ, _, h => by
    obtain ⟨s, r, e, a, b⟩ := h
    exact ⟨s, r, e, fun w ew => let ⟨v, e1, e2⟩ := a w ew; ⟨v, e1, e2.extT x⟩, RepQ.extT x b⟩
theorem RepQ.ext (x : Ext K H H1) {γ : Fr} {σ : St} (h : RepQ K H γ σ) : RepQ K H1 γ σ := RepQ.extT x.t h
theorem RepQ.get : ∀ {γ : Fr} {σ : St} {i : Nat} {w : W}, RepQ K H γ σ → L3.get γ i = some w → ∃ v, σ[i]? = some (some v) ∧ Rep K H w v
  | [], _, i, w, _, e => by cases i <;> cases e
  | g :: γ, _, 0, w, h, e => by
    obtain ⟨s, r, rfl, a, b⟩ := h
    obtain ⟨v, e1, e2⟩ := a w e
    exact ⟨v, by rw [e1]; rfl, e2⟩
  | g :: γ, _, i + 1, w, h, e => by
    obtain ⟨s, r, rfl, a, b⟩ := h
    obtain ⟨v, e1, e2⟩ := RepQ.get (i := i) b e
    exact ⟨v, by simpa using e1, e2⟩
theorem RepQ.put : ∀ {γ : Fr} {σ : St} {i : Nat} {w : W} {v : V}, RepQ K H γ σ → Rep K H w v → RepQ K H (L3.put γ i w) (σ.set i (some v))
  | [], _, i, w, v, h, q => by cases h; exact rfl
  | g :: γ, _, 0, w, v, h, q => by
    obtain ⟨s, r, rfl, a, b⟩ := h
    exact ⟨some v, r, rfl, fun w' e => ⟨v, rfl, by cases e; exact q⟩, b⟩
  | g :: γ, _, i + 1, w, v, h, q => by
    obtain ⟨s, r, rfl, a, b⟩ := h
    exact ⟨s, r.set i (some v), rfl, a, RepQ.put b q⟩
theorem RepQ.del : ∀ {γ : Fr} {σ : St} {i : Nat}, RepQ K H γ σ → RepQ K H (L3.del γ i) (σ.set i none)
  | [], _, i, h => by cases h; exact rfl
  | g :: γ, _, 0, h => by
    obtain ⟨s, r, rfl, a, b⟩ := h
    exact ⟨none, r, rfl, (fun w' e => nomatch e), b⟩
  | g :: γ, _, i + 1, h => by
    obtain ⟨s, r, rfl, a, b⟩ := h
    exact ⟨s, r.set i none, rfl, a, RepQ.del b⟩
theorem RepQ.wipe {γ : Fr} {σ : St} (h : RepQ K H γ σ) : ∀ vs : List Nat, RepQ K H (L3.wipe γ vs) (L2.wipe σ vs)
  | [] => h
  | v :: vs => (RepQ.wipe h vs).del
theorem RepQ.length : ∀ {γ : Fr} {σ : St}, RepQ K H γ σ → γ.length = σ.length
  | [], _, h => by cases h; rfl
  | g :: γ, _, h => by
    obtain ⟨s, r, rfl, a, b⟩ := h
    simp only [List.length_cons, RepQ.length b]
theorem RepQ.start {n : Nat} : ∀ {ws : List W} {vs : List V}, RepL K H ws vs → ∀ m, RepQ K H (ws.map some ++ List.replicate m none) (vs.map some ++ List.replicate m none)
  | [], _, h, m => by
    simp only [RepL] at h
    subst h
    induction m with
    | zero => exact rfl
    | succ m ih => exact ⟨none, _, rfl, (fun w e => nomatch e), ih⟩
  | w :: ws, _, h, m => by
    simp only [RepL] at h
    obtain ⟨v, r, e, a, b⟩ := h
    subst e
    exact ⟨some v, _, rfl, fun w' e => ⟨v, rfl, by cases e; exact a⟩, RepQ.start (n := n) b m⟩
end

/-- .. and every tuple of Z0 is there still -/
structure RepS (K : Frag) (Z0 H : Hp) (γ : Fr) (σ : St) : Prop where
  f : RepQ K H γ σ
  x : Ext K Z0 H
section
variable {K : Frag} {Z0 H H1 : Hp} {γ : Fr} {σ : St}
theorem RepS.ext (x : Ext K H H1) (h : RepS K Z0 H γ σ) : RepS K Z0 H1 γ σ := ⟨h.f.ext x, h.x.trans x⟩
theorem RepS.get {i : Nat} {w : W} (h : RepS K Z0 H γ σ) (e : L3.get γ i = some w) : ∃ v, σ[i]? = some (some v) ∧ Rep K H w v := h.f.get e
theorem RepS.put {i : Nat} {w : W} {v : V} (h : RepS K Z0 H γ σ) (r : Rep K H w v) : RepS K Z0 H (L3.put γ i w) (σ.set i (some v)) := ⟨h.f.put r, h.x⟩
theorem RepS.del {i : Nat} (h : RepS K Z0 H γ σ) : RepS K Z0 H (L3.del γ i) (σ.set i none) := ⟨h.f.del, h.x⟩
theorem RepS.wipe (h : RepS K Z0 H γ σ) (vs : List Nat) : RepS K Z0 H (L3.wipe γ vs) (L2.wipe σ vs) := ⟨h.f.wipe vs, h.x⟩
theorem RepS.length (h : RepS K Z0 H γ σ) : γ.length = σ.length := h.f.length
end
/-- what is wished of exceptions, and the heap at the beginning -/
structure EX where
  ex : Fr → XQ
  h0 : Hp
instance : CoeFun EX (fun _ => Fr → XQ) := ⟨EX.ex⟩

/-! ### simulations -/
section
variable (K : Frag) (Z0 : Hp)
abbrev KV3 (H : Hp) (Q3 : QV) (Q : VK) : Prop := ∀ v H' w G', Ext K H H' → Rel K H' G' → Rep K H' w v → Q3 w G' → Q v H'
def SimE (t : L2.TE) (t3 : Fr → Gh → QV → Prop) : Prop := ∀ (σ : St) (H : Hp) (γ : Fr) (G : Gh) (Q3 : QV) (Q : VK), RepS K Z0 H γ σ → Rel K H G → t3 γ G Q3 →
  (∀ v H' w G', Ext K H H' → Rel K H' G' → Rep K H' w v → Q3 w G' → Q v H') → t σ H Q
def SimT (t : L2.TT) (t3 : Fr → Gh → (Bool → Gh → Prop) → Prop) : Prop := ∀ (σ : St) (H : Hp) (γ : Fr) (G : Gh) (Q3 : Bool → Gh → Prop) (Q : Bool → Hp → Prop), RepS K Z0 H γ σ → Rel K H G → t3 γ G Q3 →
  (∀ b H' G', Ext K H H' → Rel K H' G' → Q3 b G' → Q b H') → t σ H Q
def SimA (t : L2.TA) (t3 : Fr → Gh → (List W → Gh → Prop) → Prop) : Prop := ∀ (σ : St) (H : Hp) (γ : Fr) (G : Gh) (Q3 : List W → Gh → Prop) (Q : List V → Hp → Prop), RepS K Z0 H γ σ → Rel K H G → t3 γ G Q3 →
  (∀ vs H' ws G', Ext K H H' → Rel K H' G' → RepL K H' ws vs → Q3 ws G' → Q vs H') → t σ H Q
structure EndsOk (H : Hp) (D3 : Ends) (D : L2.Ends) : Prop where
  nx : ∀ σ' H' γ' G', Ext K H H' → RepS K Z0 H' γ' σ' → Rel K H' G' → D3.nx γ' G' → D.nx σ' H'
  rt : ∀ v H' w G', Ext K H H' → Rel K H' G' → Rep K H' w v → D3.rt w G' → D.rt v H'
  bk : ∀ σ' H' γ' G', Ext K H H' → RepS K Z0 H' γ' σ' → Rel K H' G' → D3.bk γ' G' → D.bk σ' H'
  ct : ∀ σ' H' γ' G', Ext K H H' → RepS K Z0 H' γ' σ' → Rel K H' G' → D3.ct γ' G' → D.ct σ' H'
def SimS (E : Fr → XQ) (t : L2.TS) (t3 : TS) : Prop := ∀ (D : L2.Ends) (D3 : Ends) (σ : St) (H : Hp) (γ : Fr) (G : Gh), D3.ex = E → EndsOk K Z0 H D3 D → RepS K Z0 H γ σ → Rel K H G → t3 D3 γ G → t D σ H
/-- only the slots told have changed -/
def Only (is : List Nat) (σ σ' : St) : Prop := σ'.length = σ.length ∧ ∀ j, j ∉ is → σ'[j]? = σ[j]?
def SimG (is : List Nat) (t : L2.TG) (t3 : W → Fr → Gh → (Fr → Gh → Prop) → Prop) : Prop := ∀ {Z0 : Hp} (v : V) (w : W) (σ : St) (H : Hp) (γ : Fr) (G : Gh) (Q3 : Fr → Gh → Prop) (Q : St → Hp → Prop), RepS K Z0 H γ σ → Rel K H G → Rep K H w v → t3 w γ G Q3 →
  (∀ σ' H' γ' G', Ext K H H' → RepS K Z0 H' γ' σ' → Rel K H' G' → Only is σ σ' → Q3 γ' G' → Q σ' H') → t v σ H Q
def SimGs (is : List Nat) (t : L2.TGs) (t3 : List W → Fr → Gh → (Fr → Gh → Prop) → Prop) : Prop := ∀ {Z0 : Hp} (vs : List V) (ws : List W) (σ : St) (H : Hp) (γ : Fr) (G : Gh) (Q3 : Fr → Gh → Prop) (Q : St → Hp → Prop), RepS K Z0 H γ σ → Rel K H G → RepL K H ws vs → t3 ws γ G Q3 →
  (∀ σ' H' γ' G', Ext K H H' → RepS K Z0 H' γ' σ' → Rel K H' G' → Only is σ σ' → Q3 γ' G' → Q σ' H') → t vs σ H Q
def SimIt (H0 : Hp) (J : L2.It) (J3 : It) : Prop := ∀ (i : Nat) (H : Hp) (G : Gh) (all : List W), Ext K H0 H → Rel K H G → J3 G = some all →
  (∀ w, all[i]? = some w → J.go i H ∧ ∀ x H', J.yld i H x H' → Ext K H H' ∧ Rel K H' G ∧ Rep K H' w x) ∧ (all.length ≤ i → J.stop i H)
def SimI (t : L2.TI) (t3 : Fr → Gh → (It → Gh → Prop) → Prop) : Prop := ∀ (σ : St) (H : Hp) (γ : Fr) (G : Gh) (R3 : It → Gh → Prop) (R : L2.It → Hp → Prop), RepS K Z0 H γ σ → Rel K H G → t3 γ G R3 →
  (∀ J J3 H' G', Ext K H H' → Rel K H' G' → SimIt K H' J J3 → R3 J3 G' → R J H') → t σ H R
end
theorem EndsOk.ext {K : Frag} {Z0 H H1 : Hp} {D3 : Ends} {D : L2.Ends} (k : EndsOk K Z0 H D3 D) (x : Ext K H H1) : EndsOk K Z0 H1 D3 D :=
  ⟨fun σ' H' γ' G' y => k.nx σ' H' γ' G' (x.trans y), fun v H' w G' y => k.rt v H' w G' (x.trans y), fun σ' H' γ' G' y => k.bk σ' H' γ' G' (x.trans y), fun σ' H' γ' G' y => k.ct σ' H' γ' G' (x.trans y)⟩

/-! ### exceptions in the air -/
def clsV : W → Value
  | .ref C => .ref C
  | .ty n => .type n
  | _ => .none
def exRep (K : Frag) (H : Hp) (d : Option Addr) (ws : List W) : Prop := (d = none ∧ ws = []) ∨ ∃ a, d = some a ∧ ws = [W.ref a]
def lowX (K : Frag) (E : EX) : WX := fun cls d σ H => ∃ γ G w ws, RepS K E.h0 H γ σ ∧ Rel K H G ∧ cls = clsV w ∧ exRep K H d ws ∧ E γ w ws G
abbrev TakesE (X : Cx) (E : EX) : Prop := TkM X (lowX X.K E)

/-! ### judgements -/
def PE3 (X : Cx) (e : Expr) (t3 : TE) : Prop := ∀ E : EX, TakesE X E → ∃ t, PE X e t ∧ SimE X.K E.h0 t fun γ G Q => t3 γ G (E γ) Q
def PT3 (X : Cx) (e : Expr) (t3 : TT) : Prop := ∀ E : EX, TakesE X E → ∃ t, PT X e t ∧ SimT X.K E.h0 t fun γ G Q => t3 γ G (E γ) Q
def PW3 (X : Cx) (e : Expr) (t3 : TT) : Prop := ∀ E : EX, TakesE X E → ∃ t, PW X e t ∧ SimT X.K E.h0 t fun γ G Q => t3 γ G (E γ) Q
def PA3 (X : Cx) (es : List Expr) (t3 : TA) : Prop := ∀ E : EX, TakesE X E → ∃ t, PA X es t ∧ SimA X.K E.h0 t fun γ G Q => t3 γ G (E γ) Q
def PS3 (X : Cx) (st : Stmt) (t3 : TS) : Prop := ∀ E : EX, TakesE X E → ∃ t, PS X st t ∧ SimS X.K E.h0 E t t3
def PSs3 (X : Cx) (st : List Stmt) (t3 : TS) : Prop := ∀ E : EX, TakesE X E → ∃ t, PSs X st t ∧ SimS X.K E.h0 E t t3
theorem Only.refl {is : List Nat} {σ : St} : Only is σ σ := ⟨rfl, fun _ _ => rfl⟩
theorem Only.trans {is is' : List Nat} {σ σ' σ2 : St} (a : Only is σ σ') (b : Only is' σ' σ2) : Only (is ++ is') σ σ2 :=
  ⟨b.1.trans a.1, fun j hj => (b.2 j fun z => hj (List.mem_append_right _ z)).trans (a.2 j fun z => hj (List.mem_append_left _ z))⟩
theorem Only.set {i : Nat} {σ : St} {v : Option V} : Only [i] σ (σ.set i v) := ⟨by simp, fun j hj => by
  rw [List.getElem?_set_ne]
  rintro rfl
  exact hj (by simp)⟩
def PG3 (X : Cx) (e : Expr) (is : List Nat) (t3 : TG) : Prop := ∃ t, PG X e t ∧ SimG X.K is t t3
def PGs3 (X : Cx) (es : List Expr) (is : List Nat) (t3 : TGs) : Prop := ∃ t, PGs X es t ∧ SimGs X.K is t t3
def PI3 (X : Cx) (tg iter : Expr) (t3 : TI) : Prop := ∀ E : EX, TakesE X E → ∃ t, PI X tg iter t ∧ SimI X.K E.h0 t fun γ G R => t3 γ G (E γ) R

section
variable {X : Cx} {a b c d e : Expr} {es : List Expr} {ta tb tc td te : TE} {tA tB : TT} {pos : Pos} {rest : List Expr}

/-! ### names, constants -/
theorem pe3_var {i : Nat} {x : Str} (h : PE X (.Name x pos) (tVar i)) : PE3 X (.Name x pos) (eVar i) := fun E tk => ⟨_, h, fun σ H γ G Q3 Q hs hr h3 k => by
  simp only [eVar] at h3
  cases e : get γ i with
  | none => rw [e] at h3; exact h3.elim
  | some w =>
    rw [e] at h3
    obtain ⟨v, e1, e2⟩ := hs.get e
    exact ⟨v, e1, k v H w G .refl hr e2 h3⟩⟩
theorem pe3_c {w : W} {v : V} (h : PE X e (tC v)) (r : ∀ H, Rep X.K H w v) : PE3 X e (eC w) := fun E tk => ⟨_, h, fun σ H γ G Q3 Q hs hr h3 k => k v H w G .refl hr (r H) h3⟩
theorem pe3_int {i j pos} : PE3 X (.Constant (.int i) j pos) (eC (.int i)) := pe3_c pe_int fun H => by simp only [Rep]
theorem pe3_bl {i j pos} : PE3 X (.Constant (.bool i) j pos) (eC (.bl i)) := pe3_c pe_bl fun H => by simp only [Rep]
theorem pe3_non {j pos} : PE3 X (.Constant .none j pos) (eC .non) := pe3_c pe_non fun H => by simp only [Rep]
theorem pe3_str {x : Str} {l : List Nat} {j pos} (h : x = S l) : PE3 X (.Constant (.str x) j pos) (eC (.str l)) := pe3_c pe_str fun H => by rw [h]; simp only [Rep]; rfl

/-! ### operations by values -/
def OpR3 (X : Cx) (f : Value → Value → Sem Value) (r3 : R2) : Prop := ∃ r : L2.R2, OpR X f r ∧ ∀ x y v u H G Q3 Q, Rel X.K H G → Rep X.K H x v → Rep X.K H y u → r3 x y G Q3 →
  (∀ v H' w G', Ext X.K H H' → Rel X.K H' G' → Rep X.K H' w v → Q3 w G' → Q v H') → r v u H Q
theorem pe3_op {op : Operator} {r3 : R2} (ho : OpR3 X (binaryOp op) r3) (ha : PE3 X a ta) (hb : PE3 X b tb) : PE3 X (.BinOp a op b pos) (eOp r3 ta tb) := fun E tk => by
  obtain ⟨r, h1, h2⟩ := ho
  obtain ⟨t, p1, q1⟩ := ha E tk
  obtain ⟨u, p2, q2⟩ := hb E tk
  refine ⟨_, pe_op h1 p1 p2, fun σ H γ G Q3 Q hs hr h3 k => ?_⟩
  refine q1 σ H γ G _ _ hs hr h3 fun v H1 w G1 x1 r1 rv h3 => ?_
  refine q2 σ H1 γ G1 _ _ (hs.ext x1) r1 h3 fun v2 H2 w2 G2 x2 r2 rv2 h3 => ?_
  exact h2 _ _ _ _ _ _ _ _ r2 (rv.ext x2) rv2 h3 fun v3 H3 w3 G3 x3 => k v3 H3 w3 G3 ((x1.trans x2).trans x3)
theorem pe3_cmp {op : CmpOp} {r3 : R2} (ho : OpR3 X (compareOp op) r3) (ha : PE3 X a ta) (hb : PE3 X b tb) (hm : behindInMarks op b = false) : PE3 X (.Compare a [op] [b] pos) (eOp r3 ta tb) := fun E tk => by
  obtain ⟨r, h1, h2⟩ := ho
  obtain ⟨t, p1, q1⟩ := ha E tk
  obtain ⟨u, p2, q2⟩ := hb E tk
  refine ⟨_, pe_cmpR h1 p1 p2 hm, fun σ H γ G Q3 Q hs hr h3 k => ?_⟩
  refine q1 σ H γ G _ _ hs hr h3 fun v H1 w G1 x1 r1 rv h3 => ?_
  refine q2 σ H1 γ G1 _ _ (hs.ext x1) r1 h3 fun v2 H2 w2 G2 x2 r2 rv2 h3 => ?_
  exact h2 _ _ _ _ _ _ _ _ r2 (rv.ext x2) rv2 h3 fun v3 H3 w3 G3 x3 => k v3 H3 w3 G3 ((x1.trans x2).trans x3)
theorem rbl {K : Frag} {H : Hp} {k : Bool} : Rep K H (.bl k) (.bl k) := by simp only [Rep]
theorem rint {K : Frag} {H : Hp} {k : Int} : Rep K H (.int k) (.int k) := by simp only [Rep]
theorem rnon {K : Frag} {H : Hp} : Rep K H .non .non := by simp only [Rep]
theorem rref {K : Frag} {H : Hp} {p : Addr} : Rep K H (.ref p) (.ref p) := by simp only [Rep]
theorem rstr {K : Frag} {H : Hp} {l : List Nat} : Rep K H (.str l) (.str (S l)) := by simp only [Rep]; rfl
theorem rep_bl {K : Frag} {H : Hp} {k : Bool} {v : V} (h : Rep K H (.bl k) v) : v = .bl k := by simpa only [Rep] using h
theorem pt3_cmp {op : CmpOp} {r3 : R2} (ho : OpR3 X (compareOp op) r3) (ha : PE3 X a ta) (hb : PE3 X b tb) (hm : behindInMarks op b = false) : PT3 X (.Compare a [op] [b] pos) (tV (eOp r3 ta tb)) := fun E tk => by
  obtain ⟨r, h1, h2⟩ := ho
  obtain ⟨t, p1, q1⟩ := ha E tk
  obtain ⟨u, p2, q2⟩ := hb E tk
  refine ⟨_, pt_cmpR h1 p1 p2 hm, fun σ H γ G Q3 Q hs hr h3 k => ?_⟩
  refine q1 σ H γ G _ _ hs hr h3 fun v H1 w G1 x1 r1 rv h3 => ?_
  refine q2 σ H1 γ G1 _ _ (hs.ext x1) r1 h3 fun v2 H2 w2 G2 x2 r2 rv2 h3 => ?_
  refine h2 _ _ _ _ _ _ _ _ r2 (rv.ext x2) rv2 h3 fun v3 H3 w3 G3 x3 r3 rv3 h3 => ?_
  cases w3 with
  | bl b => exact ⟨b, rep_bl rv3, k b H3 G3 ((x1.trans x2).trans x3) r3 h3⟩
  | _ => exact h3.elim
def UnR3 (X : Cx) (f : Value → Sem Value) (r3 : R1) : Prop := ∃ r : V → Hp → VK → Prop, UnR X f r ∧ ∀ x v H G Q3 Q, Rel X.K H G → Rep X.K H x v → r3 x G Q3 →
  (∀ v H' w G', Ext X.K H H' → Rel X.K H' G' → Rep X.K H' w v → Q3 w G' → Q v H') → r v H Q
theorem pe3_un {op : UnaryOp} {r3 : R1} (ho : UnR3 X (unaryOp op) r3) (ha : PE3 X a ta) : PE3 X (.UnaryOp op a pos) (eUn r3 ta) := fun E tk => by
  obtain ⟨r, h1, h2⟩ := ho
  obtain ⟨t, p1, q1⟩ := ha E tk
  refine ⟨_, pe_un h1 p1, fun σ H γ G Q3 Q hs hr h3 k => ?_⟩
  refine q1 σ H γ G _ _ hs hr h3 fun v H1 w G1 x1 r1 rv h3 => ?_
  exact h2 _ _ _ _ _ _ r1 rv h3 fun v3 H3 w3 G3 x3 => k v3 H3 w3 G3 (x1.trans x3)
/-- a op1 b op2 c -/
theorem ch_sim {op op' : CmpOp} {r3 r3' : R2} {r r' : L2.R2} {t u z : L2.TE} {E : EX}
    (h2 : ∀ x y v u H G Q3 Q, Rel X.K H G → Rep X.K H x v → Rep X.K H y u → r3 x y G Q3 → (∀ v H' w G', Ext X.K H H' → Rel X.K H' G' → Rep X.K H' w v → Q3 w G' → Q v H') → r v u H Q)
    (h2' : ∀ x y v u H G Q3 Q, Rel X.K H G → Rep X.K H x v → Rep X.K H y u → r3' x y G Q3 → (∀ v H' w G', Ext X.K H H' → Rel X.K H' G' → Rep X.K H' w v → Q3 w G' → Q v H') → r' v u H Q)
    (q1 : SimE X.K E.h0 t fun γ G Q => ta γ G (E γ) Q) (q2 : SimE X.K E.h0 u fun γ G Q => tb γ G (E γ) Q) (q3 : SimE X.K E.h0 z fun γ G Q => tc γ G (E γ) Q) :
    SimE X.K E.h0 (tChain r r' t u z) fun γ G Q => eCh r3 r3' ta tb tc γ G (E γ) Q := by
  intro σ H γ G Q3 Q hs hr h3 k
  refine q1 σ H γ G _ _ hs hr h3 fun v H1 w G1 x1 r1 rv h3 => ?_
  refine q2 σ H1 γ G1 _ _ (hs.ext x1) r1 h3 fun v2 H2 w2 G2 x2 r2 rv2 h3 => ?_
  refine h2 _ _ _ _ _ _ _ _ r2 (rv.ext x2) rv2 h3 fun v3 H3 w3 G3 x3 r3 rv3 h3 => ?_
  cases w3 with
  | bl b =>
    refine ⟨b, rep_bl rv3, ?_⟩
    cases b with
    | true =>
      refine iteT (q3 σ H3 γ G3 _ _ (hs.ext ((x1.trans x2).trans x3)) r3 h3 fun v4 H4 w4 G4 x4 r4 rv4 h3 => ?_)
      exact h2' _ _ _ _ _ _ _ _ r4 (rv2.ext (x3.trans x4)) rv4 h3 fun v5 H5 w5 G5 x5 => k v5 H5 w5 G5 (((x1.trans x2).trans x3).trans (x4.trans x5))
    | false => exact iteF (k _ H3 _ G3 ((x1.trans x2).trans x3) r3 rbl h3)
  | _ => exact h3.elim
theorem pe3_ch {op op' : CmpOp} {r3 r3' : R2} (ho : OpR3 X (compareOp op) r3) (ho' : OpR3 X (compareOp op') r3') (ha : PE3 X a ta) (hb : PE3 X b tb) (hc : PE3 X c tc)
    (hm : lastMarks [op, op'] [b, c] = false := by with_unfolding_all rfl) : PE3 X (.Compare a [op, op'] [b, c] pos) (eCh r3 r3' ta tb tc) := fun E tk => by
  obtain ⟨r, h1, h2⟩ := ho
  obtain ⟨r', h1', h2'⟩ := ho'
  obtain ⟨t, p1, q1⟩ := ha E tk
  obtain ⟨u, p2, q2⟩ := hb E tk
  obtain ⟨z, p3, q3⟩ := hc E tk
  exact ⟨_, pe_chain h1 h1' p1 p2 p3 hm, ch_sim (op := op) (op' := op') h2 h2' q1 q2 q3⟩
theorem pt3_ch {op op' : CmpOp} {r3 r3' : R2} (ho : OpR3 X (compareOp op) r3) (ho' : OpR3 X (compareOp op') r3') (ha : PE3 X a ta) (hb : PE3 X b tb) (hc : PE3 X c tc)
    (hm : lastMarks [op, op'] [b, c] = false := by with_unfolding_all rfl) : PT3 X (.Compare a [op, op'] [b, c] pos) (tV (eCh r3 r3' ta tb tc)) := fun E tk => by
  obtain ⟨r, h1, h2⟩ := ho
  obtain ⟨r', h1', h2'⟩ := ho'
  obtain ⟨t, p1, q1⟩ := ha E tk
  obtain ⟨u, p2, q2⟩ := hb E tk
  obtain ⟨z, p3, q3⟩ := hc E tk
  refine ⟨_, pt_chain h1 h1' p1 p2 p3 hm, fun σ H γ G Q3 Q hs hr h3 k => ?_⟩
  refine ch_sim (op := op) (op' := op') (E := E) h2 h2' q1 q2 q3 σ H γ G _ _ hs hr h3 fun v H' w G' x r rv h3 => ?_
  cases w with
  | bl b => exact ⟨b, rep_bl rv, k b H' G' x r h3⟩
  | _ => exact h3.elim
/-! ### if, and, or, not -/
theorem pe3_if (hc : PT3 X c tA) (ha : PE3 X a ta) (hb : PE3 X b tb) : PE3 X (.IfExp c a b pos) (eIf tA ta tb) := fun E tk => by
  obtain ⟨t, p1, q1⟩ := ha E tk
  obtain ⟨u, p2, q2⟩ := hb E tk
  obtain ⟨z, p3, q3⟩ := hc E tk
  refine ⟨_, pe_ifExp p3 p1 p2, fun σ H γ G Q3 Q hs hr h3 k => ?_⟩
  refine q3 σ H γ G _ _ hs hr h3 fun b H1 G1 x1 r1 h3 => ?_
  cases b with
  | true => exact iteT (q1 σ H1 γ G1 _ _ (hs.ext x1) r1 (by simpa using h3) fun v H' w G' x => k v H' w G' (x1.trans x))
  | false => exact iteF (q2 σ H1 γ G1 _ _ (hs.ext x1) r1 (by simpa using h3) fun v H' w G' x => k v H' w G' (x1.trans x))
theorem pe3_one {op} (h : PE3 X a ta) : PE3 X (.BoolOp op [a] pos) ta := fun E tk => let ⟨t, p, q⟩ := h E tk; ⟨t, pe_one p, q⟩
theorem pe3_and (ha : PE3 X a ta) (hb : PE3 X (.BoolOp .And (b :: rest) pos) tb) : PE3 X (.BoolOp .And (a :: b :: rest) pos) (eAnd ta tb) := fun E tk => by
  obtain ⟨t, p1, q1⟩ := ha E tk
  obtain ⟨u, p2, q2⟩ := hb E tk
  refine ⟨_, pe_and p1 p2, fun σ H γ G Q3 Q hs hr h3 k => ?_⟩
  refine q1 σ H γ G _ _ hs hr h3 fun v H1 w G1 x1 r1 rv h3 => ?_
  cases w with
  | bl b =>
    refine ⟨b, rep_bl rv, ?_⟩
    cases b with
    | true => exact iteT (q2 σ H1 γ G1 _ _ (hs.ext x1) r1 (by simpa using h3) fun v H' w G' x => k v H' w G' (x1.trans x))
    | false => exact iteF (k _ H1 _ G1 x1 r1 rbl (by simpa using h3))
  | _ => exact h3.elim
theorem pe3_or (ha : PE3 X a ta) (hb : PE3 X (.BoolOp .Or (b :: rest) pos) tb) : PE3 X (.BoolOp .Or (a :: b :: rest) pos) (eOr ta tb) := fun E tk => by
  obtain ⟨t, p1, q1⟩ := ha E tk
  obtain ⟨u, p2, q2⟩ := hb E tk
  refine ⟨_, pe_or p1 p2, fun σ H γ G Q3 Q hs hr h3 k => ?_⟩
  refine q1 σ H γ G _ _ hs hr h3 fun v H1 w G1 x1 r1 rv h3 => ?_
  cases w with
  | bl b =>
    refine ⟨b, rep_bl rv, ?_⟩
    cases b with
    | false => exact iteF (q2 σ H1 γ G1 _ _ (hs.ext x1) r1 (by simpa using h3) fun v H' w G' x => k v H' w G' (x1.trans x))
    | true => exact iteT (k _ H1 _ G1 x1 r1 rbl (by simpa using h3))
  | _ => exact h3.elim
theorem pe3_not (ha : PE3 X a ta) : PE3 X (.UnaryOp .Not a pos) (eNot ta) := fun E tk => by
  obtain ⟨t, p1, q1⟩ := ha E tk
  refine ⟨_, pe_not p1, fun σ H γ G Q3 Q hs hr h3 k => ?_⟩
  refine q1 σ H γ G _ _ hs hr h3 fun v H1 w G1 x1 r1 rv h3 => ?_
  cases w with
  | bl b => exact ⟨b, rep_bl rv, k _ H1 _ G1 x1 r1 rbl h3⟩
  | _ => exact h3.elim
theorem PW3.pt (h : PW3 X a tA) : PT3 X a tA := fun E tk => let ⟨t, p, q⟩ := h E tk; ⟨t, p.pt, q⟩
theorem pw3_and1 (h : PT3 X a tA) : PW3 X (.BoolOp .And [a] pos) tA := fun E tk => let ⟨t, p, q⟩ := h E tk; ⟨t, pw_and1 p, q⟩
theorem pw3_or1 (h : PT3 X a tA) : PW3 X (.BoolOp .Or [a] pos) tA := fun E tk => let ⟨t, p, q⟩ := h E tk; ⟨t, pw_or1 p, q⟩
theorem pw3_and (ha : PT3 X a tA) (hb : PW3 X (.BoolOp .And (b :: rest) pos) tB) : PW3 X (.BoolOp .And (a :: b :: rest) pos) (tAnd tA tB) := fun E tk => by
  obtain ⟨t, p1, q1⟩ := ha E tk
  obtain ⟨u, p2, q2⟩ := hb E tk
  refine ⟨_, pw_and p1 p2, fun σ H γ G Q3 Q hs hr h3 k => ?_⟩
  refine q1 σ H γ G _ _ hs hr h3 fun b H1 G1 x1 r1 h3 => ?_
  cases b with
  | true => exact iteT (q2 σ H1 γ G1 _ _ (hs.ext x1) r1 (by simpa using h3) fun v H' G' x => k v H' G' (x1.trans x))
  | false => exact iteF (k _ H1 G1 x1 r1 (by simpa using h3))
theorem pw3_or (ha : PT3 X a tA) (hb : PW3 X (.BoolOp .Or (b :: rest) pos) tB) : PW3 X (.BoolOp .Or (a :: b :: rest) pos) (tOr tA tB) := fun E tk => by
  obtain ⟨t, p1, q1⟩ := ha E tk
  obtain ⟨u, p2, q2⟩ := hb E tk
  refine ⟨_, pw_or p1 p2, fun σ H γ G Q3 Q hs hr h3 k => ?_⟩
  refine q1 σ H γ G _ _ hs hr h3 fun b H1 G1 x1 r1 h3 => ?_
  cases b with
  | false => exact iteF (q2 σ H1 γ G1 _ _ (hs.ext x1) r1 (by simpa using h3) fun v H' G' x => k v H' G' (x1.trans x))
  | true => exact iteT (k _ H1 G1 x1 r1 (by simpa using h3))
theorem pt3_not (ha : PT3 X a tA) : PT3 X (.UnaryOp .Not a pos) (tNot tA) := fun E tk => by
  obtain ⟨t, p1, q1⟩ := ha E tk
  refine ⟨_, pt_not p1, fun σ H γ G Q3 Q hs hr h3 k => ?_⟩
  exact q1 σ H γ G _ _ hs hr h3 fun b H1 G1 x1 r1 h3 => k _ H1 G1 x1 r1 h3
theorem rep_tup {K : Frag} {H : Hp} {ws : List W} {v : V} (h : Rep K H (.tup ws) v) : ∃ a xs, v = .ref a ∧ SqT K H a xs ∧ RepL K H ws xs := by
  simp only [Rep] at h
  obtain ⟨a, xs, e, s, r⟩ := h
  exact ⟨a, xs, e, .inl (.inl s), r⟩
theorem rep_tupS {K : Frag} {H : Hp} {ws : List W} {v : V} (h : Rep K H (.tup ws) v) : ∃ a xs, v = .ref a ∧ H a = some (.tup xs) ∧ RepL K H ws xs := by simpa only [Rep] using h
theorem sqt_none {K : Frag} {H : Hp} {a : Addr} {xs : List V} (h : SqT K (fun _ => none) a xs) : SqT K H a xs := by
  rcases h with (h | ⟨o, h⟩) | h
  · cases h
  · cases h
  · exact .inr h
theorem rep_ktp {K : Frag} {H : Hp} {ws : List W} {v : V} (h : Rep K H (.ktp ws) v) : ∃ a xs, v = .ref a ∧ SqT K H a xs ∧ RepL K H ws xs := by
  simp only [Rep] at h
  obtain ⟨a, xs, e, s, r⟩ := h
  exact ⟨a, xs, e, sqt_none s, r⟩
theorem rep_ktp0 {K : Frag} {H : Hp} {ws : List W} {v : V} (h : Rep K H (.ktp ws) v) : ∃ a xs, v = .ref a ∧ SqT K (fun _ => none) a xs ∧ RepL K H ws xs := by simpa only [Rep] using h
theorem emp {ws : List W} {xs : List V} (h : ws.length = xs.length) : (!ws.isEmpty) = !xs.isEmpty := by cases ws <;> cases xs <;> first | rfl | cases h
/-- an expression of any kind as a test -/
theorem pt3_tru (ha : PE3 X a ta) (he : ∀ whole, isTrue a X.env whole = (do let v ← whole; standAt a.pos; holding [v] (truthy v)) := by intro _; rfl) : PT3 X a (tTru ta) := fun E tk => by
  obtain ⟨t, p1, q1⟩ := ha E tk
  refine ⟨_, pt_truth p1 he, fun σ H γ G Q3 Q hs hr h3 k => ?_⟩
  refine q1 σ H γ G _ _ hs hr h3 fun v H1 w G1 x1 r1 rv h3 => ?_
  cases w with
  | non => simp only [Rep] at rv; subst rv; exact ⟨false, rfl, k _ _ _ x1 r1 h3⟩
  | bl b => simp only [Rep] at rv; subst rv; exact ⟨b, rfl, k _ _ _ x1 r1 h3⟩
  | int i => simp only [Rep] at rv; subst rv; exact ⟨i != 0, rfl, k _ _ _ x1 r1 h3⟩
  | str l =>
    simp only [Rep] at rv; subst rv
    have hl : (⟨l.toArray⟩ : Str).length = l.length := S_length l
    refine ⟨!l.isEmpty, ⟨by rw [hl]; exact h3.1, ?_⟩, k _ _ _ x1 r1 h3.2⟩
    rw [hl]
    cases l with
    | nil => rfl
    | cons c r =>
      show (!false) = _
      rw [List.length_cons]
      exact (bne_iff_ne.mpr (by omega)).symm
  | kl _ => exact h3.elim
  | tup ws =>
    obtain ⟨p, xs, rfl, s1, s2⟩ := rep_tup rv
    exact ⟨_, .inr (.inl ⟨xs, s1, emp s2.length⟩), k _ _ _ x1 r1 h3⟩
  | ktp ws =>
    obtain ⟨p, xs, rfl, s1, s2⟩ := rep_ktp rv
    exact ⟨_, .inr (.inl ⟨xs, s1, emp s2.length⟩), k _ _ _ x1 r1 h3⟩
  | ref p =>
    simp only [Rep] at rv; subst rv
    cases e : G1 p with
    | none => simp only [truth, e] at h3
    | some o =>
      cases o with
      | lst ws =>
        simp only [truth, e] at h3
        obtain ⟨xs, s1, s2⟩ := r1.seq (.inl e)
        exact ⟨_, .inl ⟨xs, s1, emp s2.length⟩, k _ _ _ x1 r1 h3⟩
      | rdl ws =>
        simp only [truth, e] at h3
        obtain ⟨xs, s1, s2⟩ := r1.seq (.inr e)
        exact ⟨_, .inl ⟨xs, s1, emp s2.length⟩, k _ _ _ x1 r1 h3⟩
      | dct kvs =>
        simp only [truth, e] at h3
        obtain ⟨ks, s1, s2⟩ := r1 p _ e
        refine ⟨!kvs.isEmpty, .inr (.inr ⟨ks, s1, ?_⟩), k _ _ _ x1 r1 h3⟩
        have := s2.length
        cases kvs <;> cases ks <;> first | rfl | cases this
      | dtt kvs => simp only [truth, e] at h3
      | ins C ns ws => simp only [truth, e] at h3
      | exo C ns ws => simp only [truth, e] at h3
      | rdt kvs => simp only [truth, e] at h3
      | rdc kvs => simp only [truth, e] at h3
  | ty n => exact h3.elim

/-! ### arguments -/
theorem pa3_nil : PA3 X [] aNil := fun E tk => ⟨_, pa_nil, fun σ H γ G Q3 Q hs hr h3 k => k [] H [] G .refl hr .nil h3⟩
theorem pa3_cons {tr : TA} (ha : PE3 X e te) (hr : PA3 X es tr) (hs : starEach (e :: es) X.env = (false, eval e X.env) :: starEach es X.env := by rfl) : PA3 X (e :: es) (aCons te tr) := fun E tk => by
  obtain ⟨t, p1, q1⟩ := ha E tk
  obtain ⟨u, p2, q2⟩ := hr E tk
  refine ⟨_, pa_cons p1 p2 hs, fun σ H γ G Q3 Q hs hr h3 k => ?_⟩
  refine q1 σ H γ G _ _ hs hr h3 fun v H1 w G1 x1 r1 rv h3 => ?_
  refine q2 σ H1 γ G1 _ _ (hs.ext x1) r1 h3 fun vs H2 ws G2 x2 r2 rv2 h3 => ?_
  exact k _ H2 _ G2 (x1.trans x2) r2 (.cons (rv.ext x2) rv2) h3
theorem pa3_csn : PA3 X [] (aCs []) := pa3_nil
theorem pa3_csc {u : W} {us : List W} (ha : PE3 X e (eC u)) (hr : PA3 X es (aCs us)) (hs : starEach (e :: es) X.env = (false, eval e X.env) :: starEach es X.env := by rfl) : PA3 X (e :: es) (aCs (u :: us)) := pa3_cons ha hr hs
end

/-! ### statements -/
section
variable {X : Cx} {st : Stmt} {rest : List Stmt} {t u : TS} {e : Expr} {te : TE} {pos : Pos}
theorem pss3_nil : PSs3 X [] sNext := fun E tk => ⟨_, pss_nil, fun D D3 σ H γ G he ho hs hr h3 => ho.nx σ H γ G .refl hs hr h3⟩
theorem pss3_cons (h1 : PS3 X st t) (h2 : PSs3 X rest u) : PSs3 X (st :: rest) (sSeq t u) := fun E tk => by
  obtain ⟨t1, p1, q1⟩ := h1 E tk
  obtain ⟨t2, p2, q2⟩ := h2 E tk
  refine ⟨_, pss_cons p1 p2, fun D D3 σ H γ G he ho hs hr h3 => ?_⟩
  refine q1 _ { D3 with nx := u D3 } σ H γ G he ⟨fun σ' H' γ' G' x s r h => ?_, ho.rt, ho.bk, ho.ct⟩ hs hr h3
  exact q2 D D3 σ' H' γ' G' he (ho.ext x) s r h
theorem pss3_one (h1 : PS3 X st t) : PSs3 X [st] t := fun E tk => let ⟨t, p, q⟩ := h1 E tk; ⟨t, pss_one p, q⟩
theorem ps3_pass : PS3 X (.Pass pos) sNext := fun E tk => ⟨_, ps_pass, fun D D3 σ H γ G he ho hs hr h3 => ho.nx σ H γ G .refl hs hr h3⟩
theorem ps3_brk : PS3 X (.Break pos) sBrk := fun E tk => ⟨_, ps_break, fun D D3 σ H γ G he ho hs hr h3 => ho.bk σ H γ G .refl hs hr h3⟩
theorem ps3_cnt : PS3 X (.Continue pos) sCnt := fun E tk => ⟨_, ps_continue, fun D D3 σ H γ G he ho hs hr h3 => ho.ct σ H γ G .refl hs hr h3⟩
theorem ps3_expr (h : PE3 X e te) (hs : swapsWith e none pos.line X.env = pure false := by rfl) : PS3 X (.Expr e pos) (sDrop te) := fun E tk => by
  obtain ⟨t, p, q⟩ := h E tk
  refine ⟨_, ps_expr p hs, fun D D3 σ H γ G he ho hs hr h3 => ?_⟩
  cases E; dsimp only at he; subst he
  exact q σ H γ G _ _ hs hr h3 fun v H' w G' x r rv h => ho.nx σ H' γ G' x (hs.ext x) r h
theorem ps3_ret (h : PE3 X e te) : PS3 X (.Return (some e) pos) (sRet te) := fun E tk => by
  obtain ⟨t, p, q⟩ := h E tk
  refine ⟨_, ps_ret p, fun D D3 σ H γ G he ho hs hr h3 => ?_⟩
  cases E; dsimp only at he; subst he
  exact q σ H γ G _ _ hs hr h3 fun v H' w G' x r rv h => ho.rt v H' w G' x r rv h
theorem ps3_retN : PS3 X (.Return none pos) sRetN := fun E tk => ⟨_, ps_retN, fun D D3 σ H γ G he ho hs hr h3 => ho.rt .non H .non G .refl hr rnon h3⟩
theorem ps3_if {c : Expr} {a b : List Stmt} {tc : TT} (hc : PT3 X c tc) (ha : PSs3 X a t) (hb : PSs3 X b u) : PS3 X (.If c a b pos) (sIf tc t u) := fun E tk => by
  obtain ⟨t0, p0, q0⟩ := hc E tk
  obtain ⟨t1, p1, q1⟩ := ha E tk
  obtain ⟨t2, p2, q2⟩ := hb E tk
  refine ⟨_, ps_if p0 p1 p2, fun D D3 σ H γ G he ho hs hr h3 => ?_⟩
  have he' := he
  cases E; dsimp only at he; subst he
  refine q0 σ H γ G _ _ hs hr h3 fun b H1 G1 x1 r1 h3 => ?_
  cases b with
  | true => exact iteT (q1 D D3 σ H1 γ G1 he' (ho.ext x1) (hs.ext x1) r1 (by simpa using h3))
  | false => exact iteF (q2 D D3 σ H1 γ G1 he' (ho.ext x1) (hs.ext x1) r1 (by simpa using h3))
theorem ps3_set {i : Nat} {x : Str} {pos' : Pos} (hN : X.N.Nodup) (hi : X.N[i]? = some x) (hx : Loc X.env.scope x) (h : PE3 X e te) (hs : swapsWith e (some (.Name x pos')) pos.line X.env = pure false := by rfl) (hf : X.fn x = true ∨ X.env.scope.names.lookup x = some .local := by first | exact .inl rfl | exact .inr rfl | assumption) :
    PS3 X (.Assign [.Name x pos'] e pos) (sSet i te) := fun E tk => by
  obtain ⟨t, p, q⟩ := h E tk
  refine ⟨_, ps_set hN hi hx p hs hf, fun D D3 σ H γ G he ho hs hr h3 => ?_⟩
  cases E; dsimp only at he; subst he
  exact q σ H γ G _ _ hs hr h3 fun v H' w G' x r rv h => ho.nx _ H' _ G' x ((hs.ext x).put rv) r h
theorem ps3_aug {i : Nat} {x : Str} {op : Operator} {r3 : R2} {pos' : Pos} (hN : X.N.Nodup) (hi : X.N[i]? = some x) (hx : Loc X.env.scope x) (ho : OpR3 X (inplaceOp op) r3) (h : PE3 X e te) (hf : X.fn x = true ∨ X.env.scope.names.lookup x = some .local := by first | exact .inl rfl | exact .inr rfl | assumption) :
    PS3 X (.AugAssign (.Name x pos') op e pos) (sAug i r3 te) := fun E tk => by
  obtain ⟨r, h1, h2⟩ := ho
  obtain ⟨t, p, q⟩ := h E tk
  refine ⟨_, ps_aug hN hi hx p h1 hf, fun D D3 σ H γ G he ho hs hr h3 => ?_⟩
  cases E; dsimp only at he; subst he
  simp only [sAug] at h3
  cases e : get γ i with
  | none => rw [e] at h3; exact h3.elim
  | some w =>
    rw [e] at h3
    obtain ⟨v, e1, e2⟩ := hs.get e
    refine ⟨v, e1, q σ H γ G _ _ hs hr h3 fun v1 H1 w1 G1 x1 r1 rv1 h => ?_⟩
    exact h2 _ _ _ _ _ _ _ _ r1 (e2.ext x1) rv1 h fun v2 H2 w2 G2 x2 r2 rv2 h => ho.nx _ H2 _ G2 (x1.trans x2) ((hs.ext (x1.trans x2)).put rv2) r2 h
/-! targets -/
theorem pg3_name {i : Nat} {x : Str} (hN : X.N.Nodup) (hi : X.N[i]? = some x) (hx : Loc X.env.scope x) (hf : X.fn x = true ∨ X.env.scope.names.lookup x = some .local := by first | exact .inl rfl | exact .inr rfl | assumption) : PG3 X (.Name x pos) [i] (gName i) :=
  ⟨_, pg_name hN hi hx hf, fun v w σ H γ G Q3 Q hs hr rv h3 k => k _ H _ G .refl (hs.put rv) hr .set h3⟩
theorem pgs3_nil : PGs3 X [] [] gNil := ⟨_, pgs_nil, fun vs ws σ H γ G Q3 Q hs hr rv h3 k => by
  obtain ⟨rfl, h3⟩ := h3
  simp only [RepL] at rv
  exact ⟨rv, k σ H γ G .refl hs hr .refl h3⟩⟩
theorem pgs3_cons {es : List Expr} {is js : List Nat} {g : TG} {u : TGs} (h1 : PG3 X e is g) (h2 : PGs3 X es js u) (hs : (assignEach (e :: es) X.env).map (·.2) = assign e X.env :: (assignEach es X.env).map (·.2) := by rfl) : PGs3 X (e :: es) (is ++ js) (gCons g u) := by
  obtain ⟨t, p1, q1⟩ := h1
  obtain ⟨u2, p2, q2⟩ := h2
  refine ⟨_, pgs_cons p1 p2 hs, fun vs ws σ H γ G Q3 Q hs hr rv h3 k => ?_⟩
  cases ws with
  | nil => exact h3.elim
  | cons w ws =>
    simp only [RepL] at rv
    obtain ⟨v, r, rfl, r1, r2⟩ := rv
    refine ⟨v, r, rfl, q1 v w σ H γ G _ _ hs hr r1 h3 fun σ' H' γ' G' x s' r' o1 h3 => ?_⟩
    exact q2 r ws σ' H' γ' G' _ _ s' r' (r2.ext x) h3 fun σ2 H2 γ2 G2 y s2 r2 o2 => k σ2 H2 γ2 G2 (x.trans y) s2 r2 (o1.trans o2)
theorem tup_sim {es : List Expr} {is : List Nat} {k : Nat} {t : L2.TGs} {u : TGs} {n : Nat} (pa : PG X (.Tuple es k pos) (L2.gTup X.K n t)) (pb : PG X (.Tuple es k pos) (gLst X.K n t)) (q1 : SimGs X.K is t u) : PG3 X (.Tuple es k pos) is (gTup n u) := by
  refine ⟨fun v σ H Q => L2.gTup X.K n t v σ H Q ∨ gLst X.K n t v σ H Q, ⟨fun pins s σ H v u Q I r h => ?_⟩, fun v w σ H γ G Q3 Q hs hr rv h3 k => ?_⟩
  · rcases h with h | h
    · exact pa.run pins s σ H v u Q I r h
    · exact pb.run pins s σ H v u Q I r h
  · cases w with
    | tup ws =>
      obtain ⟨a, xs, rfl, s1, s2⟩ := rep_tup rv
      exact .inl ⟨a, xs, rfl, s1, s2.length.symm.trans h3.1, q1 xs ws σ H γ G _ _ hs hr s2 h3.2 k⟩
    | ref a =>
      simp only [Rep] at rv; subst rv
      cases e : G a with
      | none => simp only [gTup, e] at h3
      | some o =>
        cases o with
        | lst ws =>
          simp only [gTup, e] at h3
          obtain ⟨xs, s1, s2⟩ := hr.seq (.inl e)
          exact .inr ⟨a, xs, rfl, s1, s2.length.symm.trans h3.1, q1 xs ws σ H γ G _ _ hs hr s2 h3.2 k⟩
        | _ => simp only [gTup, e] at h3
    | _ => exact h3.elim
theorem pg3_tup {es : List Expr} {is : List Nat} {k : Nat} {u : TGs} {n : Nat} (hc : X.calm = true) (h : PGs3 X es is u)
    (hn : (assignEach es X.env).length = n := by rfl) (hst : (assignEach es X.env).findIdx? (·.1) = none := by rfl) : PG3 X (.Tuple es k pos) is (gTup n u) := by
  obtain ⟨t, p1, q1⟩ := h
  exact tup_sim (pg_tup (k := k) (pos := pos) hc p1 hn hst) (pg_lst (k := k) (pos := pos) hc p1 hn hst) q1
theorem ps3_asg {tg : Expr} {is : List Nat} {g : TG} (h : PE3 X e te) (hg : PG3 X tg is g) (hs : swapsWithSole [tg] e pos.line X.env = pure false := by rfl) (hw : swappedStores [tg] e X.env = pure none := by rfl)
    (h1 : (assignEach [tg] X.env).map (·.2) = [assign tg X.env] := by rfl) : PS3 X (.Assign [tg] e pos) (sAsg te g) := fun E tk => by
  obtain ⟨t, p, q⟩ := h E tk
  obtain ⟨t2, p2, q2⟩ := hg
  refine ⟨_, ps_asg p p2 hs hw h1, fun D D3 σ H γ G he ho hs hr h3 => ?_⟩
  cases E; dsimp only at he; subst he
  refine q σ H γ G _ _ hs hr h3 fun v H' w G' x r rv h => ?_
  exact q2 v w σ H' γ G' _ _ (hs.ext x) r rv h fun σ2 H2 γ2 G2 y s2 r2 _ h => ho.nx σ2 H2 γ2 G2 (x.trans y) s2 r2 h

/-! ### loops -/
theorem for_sim {J : L2.It} {J3 : It} {g3 : TG} {g : L2.TG} {b3 : TS} {tb : L2.TS} {E : EX} {D : L2.Ends} {D3 : Ends} {all : List W} {is : List Nat} {σ : St} {H : Hp} {γ : Fr} {G : Gh}
    (hJ : SimIt X.K H J J3) (hg : SimG X.K is g g3) (hb : SimS X.K E.h0 E tb b3) (he : D3.ex = E) (ho : EndsOk X.K E.h0 H D3 D) (hs : RepS X.K E.h0 H γ σ) (hr : Rel X.K H G) (h : forL J3 all g3 b3 D3 all γ G) :
    ∃ Wv : Nat → Nat → St → Hp → Prop, (∃ m, Wv 0 m σ H) ∧ ∀ i m σ H, Wv i m σ H →
      (J.stop i H ∧ D.nx σ H) ∨ (J.go i H ∧ ∃ N : St → Hp → Prop, (∀ σ' H', N σ' H' → ∃ m', m' < m ∧ Wv (i + 1) m' σ' H') ∧ ∀ x H', J.yld i H x H' → g x σ H' fun σ2 H2 => tb { D with nx := N, ct := N, bk := D.nx } σ2 H2) := by
  refine ⟨fun i m σ' H' => m = all.length - i ∧ i ≤ all.length ∧ ∃ γ' G', Ext X.K H H' ∧ RepS X.K E.h0 H' γ' σ' ∧ Rel X.K H' G' ∧ forL J3 all g3 b3 D3 (all.drop i) γ' G', ⟨_, rfl, Nat.zero_le _, γ, G, .refl, hs, hr, h⟩, ?_⟩
  rintro i m σ1 H1 ⟨rfl, hi, γ1, G1, x1, s1, r1, h1⟩
  by_cases hlt : i < all.length
  · rw [List.drop_eq_getElem_cons hlt, forL_cons] at h1
    obtain ⟨ej, h1⟩ := h1
    obtain ⟨j1, j2⟩ := hJ i H1 G1 all x1 r1 ej
    obtain ⟨go, yl⟩ := j1 all[i] (by simp [hlt])
    refine .inr ⟨go, fun σ' H' => ∃ γ' G', Ext X.K H H' ∧ RepS X.K E.h0 H' γ' σ' ∧ Rel X.K H' G' ∧ forL J3 all g3 b3 D3 (all.drop (i + 1)) γ' G', fun σ' H' q => ⟨_, by omega, rfl, hlt, q⟩, fun x H2 y => ?_⟩
    obtain ⟨x2, r2, rx⟩ := yl x H2 y
    refine hg x _ σ1 H2 γ1 G1 _ _ (s1.ext x2) r2 rx h1 fun σ3 H3 γ3 G3 x3 s3 r3 _ h3 => ?_
    have y1 := (x1.trans x2).trans x3
    refine hb _ { D3 with nx := forL J3 all g3 b3 D3 (all.drop (i + 1)), ct := forL J3 all g3 b3 D3 (all.drop (i + 1)), bk := D3.nx } σ3 H3 γ3 G3 he ⟨fun σ' H' γ' G' y s r q => ⟨γ', G', y1.trans y, s, r, q⟩, fun v H' w G' y => ho.rt v H' w G' (y1.trans y), fun σ' H' γ' G' y => ho.nx σ' H' γ' G' (y1.trans y), fun σ' H' γ' G' y s r q => ⟨γ', G', y1.trans y, s, r, q⟩⟩ s3 r3 h3
  · have e : i = all.length := by omega
    subst e
    rw [List.drop_length, forL_nil] at h1
    exact .inl ⟨(hJ _ H1 G1 all x1 r1 h1.1).2 (Nat.le_refl _), ho.nx σ1 H1 γ1 G1 x1 s1 r1 h1.2⟩
theorem ps3_for {tg iter : Expr} {body : List Stmt} {is : List Nat} {wi : TI} {g : TG} {b : TS} (hp : PassesOwn (model X.prog X.w) X.A X.env X.xe) (hc : X.calm = true) (hi : PI3 X tg iter wi) (hg : PG3 X tg is g) (hb : PSs3 X body b)
    (hs : ∀ x, foldedSetIterable iter X.env x = pure x := by intro _; rfl) : PS3 X (.For tg iter body [] pos) (sFor wi g b) := fun E tk => by
  obtain ⟨t1, p1, q1⟩ := hi E tk
  obtain ⟨t2, p2, q2⟩ := hg
  obtain ⟨t3, p3, q3⟩ := hb E tk
  refine ⟨_, ps_for hp hc p1 p2 p3 hs, fun D D3 σ H γ G he ho hs hr h3 => ?_⟩
  have he' := he
  cases E; dsimp only at he; subst he
  refine q1 σ H γ G _ _ hs hr h3 fun J J3 H1 G1 x r sj h => ?_
  obtain ⟨all, e, h⟩ := h
  exact for_sim sj q2 q3 he' (ho.ext x) (hs.ext x) r h
theorem ps3_while {c : Expr} {body : List Stmt} {tc : TT} {b : TS} (hp : PassesOwn (model X.prog X.w) X.A X.env X.xe) (hc : PT3 X c tc) (hb : PSs3 X body b) : PS3 X (.While c body [] pos) (sWhile tc b) := fun E tk => by
  obtain ⟨t1, p1, q1⟩ := hc E tk
  obtain ⟨t2, p2, q2⟩ := hb E tk
  refine ⟨_, ps_while hp p1 p2, fun D D3 σ H γ G he ho hs hr h3 => ?_⟩
  have he' := he
  obtain ⟨ex0, z0⟩ := E; dsimp only at he; subst he
  obtain ⟨n, h⟩ := h3
  refine ⟨fun m σ' H' => ∃ γ' G', Ext X.K H H' ∧ RepS X.K z0 H' γ' σ' ∧ Rel X.K H' G' ∧ whileN tc b D3 m γ' G', ⟨n, γ, G, .refl, hs, hr, h⟩, ?_⟩
  rintro m σ1 H1 ⟨γ1, G1, x1, s1, r1, h1⟩
  cases m with
  | zero => exact h1.elim
  | succ m =>
    rw [whileN_succ] at h1
    refine q1 σ1 H1 γ1 G1 _ _ s1 r1 h1 fun k H2 G2 x2 r2 h => ?_
    have y1 := x1.trans x2
    cases k with
    | true =>
      refine iteT ⟨fun σ' H' => ∃ γ' G', Ext X.K H H' ∧ RepS X.K z0 H' γ' σ' ∧ Rel X.K H' G' ∧ whileN tc b D3 m γ' G', fun σ' H' q => ⟨m, Nat.lt_succ_self m, q⟩, ?_⟩
      refine q2 _ { D3 with nx := whileN tc b D3 m, ct := whileN tc b D3 m, bk := D3.nx } σ1 H2 γ1 G2 he' ⟨fun σ' H' γ' G' y s r q => ⟨γ', G', y1.trans y, s, r, q⟩, fun v H' w G' y => ho.rt v H' w G' (y1.trans y), fun σ' H' γ' G' y => ho.nx σ' H' γ' G' (y1.trans y), fun σ' H' γ' G' y s r q => ⟨γ', G', y1.trans y, s, r, q⟩⟩ (s1.ext x2) r2 (by simpa using h)
    | false => exact iteF (ho.nx σ1 H2 γ1 G2 y1 (s1.ext x2) r2 (by simpa using h))
end
end L3

end
section
/-! L3SndC: what is walked, comprehensions, calls of defs, of built-ins and of their methods, displays. -/
namespace L3
open PySem PySem.Spec PyProof.Rows L2

/-! ### the widest reading that L3's gives -/
def canE (K : Frag) (E : Fr → XQ) (t3 : TE) : L2.TE := fun σ H Q => ∃ Z0 γ G Q3, RepS K Z0 H γ σ ∧ Rel K H G ∧ t3 γ G (E γ) Q3 ∧ ∀ v H' w G', Ext K H H' → Rel K H' G' → Rep K H' w v → Q3 w G' → Q v H'
def canT (K : Frag) (E : Fr → XQ) (t3 : TT) : L2.TT := fun σ H Q => ∃ Z0 γ G Q3, RepS K Z0 H γ σ ∧ Rel K H G ∧ t3 γ G (E γ) Q3 ∧ ∀ b H' G', Ext K H H' → Rel K H' G' → Q3 b G' → Q b H'
def canG (K : Frag) (is : List Nat) (t3 : TG) : L2.TG := fun v σ H Q => ∃ Z0 w γ G Q3, RepS K Z0 H γ σ ∧ Rel K H G ∧ Rep K H w v ∧ t3 w γ G Q3 ∧ ∀ σ' H' γ' G', Ext K H H' → RepS K Z0 H' γ' σ' → Rel K H' G' → Only is σ σ' → Q3 γ' G' → Q σ' H'
section
variable {X : Cx} {e : Expr} {te : TE} {tt : TT} {g : TG} {is : List Nat}
theorem PE3.can {E : Fr → XQ} (h : PE3 X e te) (tk : ∀ Z0, TakesE X ⟨E, Z0⟩) : PE X e (canE X.K E te) := by
  refine ⟨fun pins s σ H Q I ⟨Z0, γ, G, Q3, hs, hr, h3, k⟩ => ?_⟩
  obtain ⟨t, p, q⟩ := h ⟨E, Z0⟩ (tk Z0)
  exact p.run pins s σ H Q I (q σ H γ G Q3 Q hs hr h3 k)
theorem PT3.can {E : Fr → XQ} (h : PT3 X e tt) (tk : ∀ Z0, TakesE X ⟨E, Z0⟩) : PT X e (canT X.K E tt) := by
  refine ⟨fun pins s σ H Q I ⟨Z0, γ, G, Q3, hs, hr, h3, k⟩ => ?_⟩
  obtain ⟨t, p, q⟩ := h ⟨E, Z0⟩ (tk Z0)
  exact p.run pins s σ H Q I (q σ H γ G Q3 Q hs hr h3 k)
theorem PG3.can (h : PG3 X e is g) : PG X e (canG X.K is g) := by
  obtain ⟨t, p, q⟩ := h
  exact ⟨fun pins s σ H v u Q I r ⟨Z0, w, γ, G, Q3, hs, hr, rv, h3, k⟩ => p.run pins s σ H v u Q I r (q v w σ H γ G Q3 Q hs hr rv h3 k)⟩
theorem takes0E {X : Cx} (Z0 : Hp) : TakesE X ⟨fun _ => X0, Z0⟩ := fun _ _ x => by
  obtain ⟨_, _, _, _, _, _, _, _, _, _, _, _, _, _, _, _, _, _, _, _, _, _, _, _, z⟩ := x
  exact z.elim
end
/-- a clause's tests -/
def PTs3 (X : Cx) (ifs : List Expr) (t3 : TT) : Prop := PTs X ifs (canT X.K (fun _ => X0) t3)
theorem pts3_nil {X : Cx} : PTs3 X [] tYes := ⟨fun pins s σ H Q I ⟨Z0, γ, G, Q3, hs, hr, h3, k⟩ => pts_nil.run pins s σ H Q I (k true H G .refl hr h3)⟩
theorem pts3_one {X : Cx} {c : Expr} {t : TT} (h : PT3 X c t) : PTs3 X [c] t := pts_one (h.can takes0E)

theorem wipe_in {σ : St} {j : Nat} : ∀ {vs : List Nat}, j ∈ vs → j < σ.length → (L2.wipe σ vs)[j]? = some none
  | [], h, _ => nomatch h
  | v :: vs, h, hl => by
    unfold L2.wipe
    by_cases e : v = j
    · subst e
      rw [List.getElem?_set_self (by rw [wipe_length]; exact hl)]
    · rw [List.getElem?_set_ne e]
      exact wipe_in ((List.mem_cons.mp h).resolve_left (Ne.symm e)) hl
theorem Only.wiped {is vs : List Nat} {σ σ' : St} (o : Only is σ σ') (h : ∀ i ∈ is, i ∈ vs) : L2.wipe σ' vs = L2.wipe σ vs := by
  apply List.ext_getElem?
  intro j
  by_cases hj : j ∈ vs
  · by_cases hl : j < σ.length
    · rw [wipe_in hj hl, wipe_in hj (by rw [o.1]; exact hl)]
    · rw [List.getElem?_eq_none (by rw [wipe_length, o.1]; omega), List.getElem?_eq_none (by rw [wipe_length]; omega)]
  · rw [wipe_out hj, wipe_out hj]
    exact o.2 j fun z => hj (h j z)
theorem wipe_wipe {σ : St} {vs : List Nat} : L2.wipe (L2.wipe σ vs) vs = L2.wipe σ vs := by
  apply List.ext_getElem?
  intro j
  by_cases hj : j ∈ vs
  · by_cases hl : j < σ.length
    · rw [wipe_in hj (by rw [wipe_length]; exact hl), wipe_in hj hl]
    · rw [List.getElem?_eq_none (by rw [wipe_length, wipe_length]; omega), List.getElem?_eq_none (by rw [wipe_length]; omega)]
  · rw [wipe_out hj]

section
variable {X : Cx}
theorem lc_sim {J : L2.It} {J3 : It} {g3 : TG} {t3 : TT} {e3 : TE} {is vs : List Nat} {Q3 : QV} {Q : VK} {all : List W} {σ : St} {Z0 H : Hp} {γ : Fr} {G : Gh} {D : Addr}
    (hJ : SimIt X.K H J J3) (hv : ∀ i ∈ is, i ∈ vs) (hs : RepS X.K Z0 H γ σ) (hr : Rel X.K (upd H D (.lst [])) (up G D (.lst []))) (hD : H D = none)
    (h : lcL J3 all g3 t3 e3 (wipe γ vs) D X0 Q3 all [] (up G D (.lst []))) (k : ∀ v H' w G', Ext X.K H H' → Rel X.K H' G' → Rep X.K H' w v → Q3 w G' → Q v H') :
    ∃ Wv : Nat → Nat → Hp → Prop, (∃ m, Wv 0 m (upd H D (.lst []))) ∧ ∀ i m H, Wv i m H →
      (J.stop i H ∧ Q (.ref D) H) ∨ (J.go i H ∧ ∃ Nx : Hp → Prop, (∀ H', Nx H' → ∃ m', m' < m ∧ Wv (i + 1) m' H') ∧ ∀ x H', J.yld i H x H' → canG X.K is g3 x (L2.wipe σ vs) H' fun σ2 H2 => L2.wipe σ2 vs = L2.wipe σ vs ∧ canT X.K (fun _ => X0) t3 σ2 H2 fun b H3 =>
        if b = true then canE X.K (fun _ => X0) e3 σ2 H3 fun y H4 => ∃ acc, H4 D = some (.lst acc) ∧ acc.length < sizeLine ∧ Nx (upd H4 D (.lst (acc ++ [y]))) else Nx H3) := by
  refine ⟨fun i m H' => m = all.length - i ∧ i ≤ all.length ∧ ∃ acc G', Ext X.K H H' ∧ Rel X.K H' G' ∧ lcL J3 all g3 t3 e3 (wipe γ vs) D X0 Q3 (all.drop i) acc G', ⟨_, rfl, Nat.zero_le _, [], _, .new hD, hr, h⟩, ?_⟩
  rintro i m H1 ⟨rfl, hi, acc, G1, x1, r1, h1⟩
  by_cases hlt : i < all.length
  · rw [List.drop_eq_getElem_cons hlt, lcL] at h1
    obtain ⟨ej, eD, h1⟩ := h1
    obtain ⟨go, yl⟩ := (hJ i H1 G1 all x1 r1 ej).1 all[i] (by simp [hlt])
    refine .inr ⟨go, fun H' => ∃ acc G', Ext X.K H H' ∧ Rel X.K H' G' ∧ lcL J3 all g3 t3 e3 (wipe γ vs) D X0 Q3 (all.drop (i + 1)) acc G', fun H' q => ⟨_, by omega, rfl, hlt, q⟩, fun x H2 y => ?_⟩
    obtain ⟨x2, r2, rx⟩ := yl x H2 y
    have hs2 : RepS X.K Z0 H2 (wipe γ vs) (L2.wipe σ vs) := (hs.wipe vs).ext (x1.trans x2)
    refine ⟨_, _, _, _, _, hs2, r2, rx, h1, fun σ3 H3 γ3 G3 x3 s3 r3 o3 h3 => ⟨(o3.wiped hv).trans wipe_wipe, _, _, _, _, s3, r3, h3, fun b H4 G4 x4 r4 h4 => ?_⟩⟩
    cases b with
    | true =>
      refine iteT ⟨_, _, _, _, s3.ext x4, r4, by simpa using h4, fun v5 H5 w5 G5 x5 r5 rv5 h5 => ?_⟩
      obtain ⟨e5, z5, h5⟩ := h5
      obtain ⟨xs, ex, rx⟩ := r5.lst e5
      refine ⟨xs, ex, by rw [← rx.length]; exact z5, acc ++ [w5], _, ?_, ?_, h5⟩
      · exact (((x1.trans x2).trans x3).trans (x4.trans x5)).trans (.write (by rw [ex]; trivial))
      · exact r5.write (by rw [ex]; trivial) ⟨_, upd_same, (rx.append (.one rv5)).ext (.write (by rw [ex]; trivial))⟩
    | false => exact iteF ⟨acc, _, ((x1.trans x2).trans x3).trans x4, r4, by simpa using h4⟩
  · have e : i = all.length := by omega
    subst e
    rw [List.drop_length, lcL] at h1
    exact .inl ⟨(hJ _ H1 G1 all x1 r1 h1.1).2 (Nat.le_refl _), k _ H1 _ G1 x1 r1 rref h1.2.2⟩
theorem pe3_lc {elt tg iter : Expr} {ifs : List Expr} {scope : Scope} {own : List (Str × Nat)} {is : List Nat} {pos : Pos} {wi : TI} {g : TG} {tt : TT} {te : TE} (hc : X.calm = true) (hN : X.N.Nodup) (hi : PI3 X tg iter wi) (ok : BlkOk X.N X.env.scope scope own)
    (hg : ∀ (s : Shared) (H : Hp) (C : Addr) (cl : List (Str × Addr)) (fp : List Addr), PG3 (X.blk s H scope (compEnvC scope cl C X.env) fp) tg is g) (ht : ∀ (s : Shared) (H : Hp) (C : Addr) (cl : List (Str × Addr)) (fp : List Addr), PTs3 (X.blk s H scope (compEnvC scope cl C X.env) fp) ifs tt)
    (he : ∀ (s : Shared) (H : Hp) (C : Addr) (cl : List (Str × Addr)) (fp : List Addr), PE3 (X.blk s H scope (compEnvC scope cl C X.env) fp) elt te) (hv : ∀ i ∈ is, i ∈ own.map (·.2) := by decide) (hs : ∀ x, foldedSetIterable iter X.env x = pure x := by intro _; rfl) :
    PE3 X (.ListComp elt [⟨tg, iter, ifs, 0⟩] scope pos) (eLc wi g tt te (own.map (·.2))) := fun E tk => by
  obtain ⟨t1, p1, q1⟩ := hi E tk
  refine ⟨_, pe_lc (g := canG X.K is g) (tt := canT X.K (fun _ => X0) tt) (te := canE X.K (fun _ => X0) te) hc hN p1 ok (fun s H C cl fp => (hg s H C cl fp).can) (fun s H C cl fp => ht s H C cl fp) (fun s H C cl fp => (he s H C cl fp).can (E := fun _ => X0) takes0E) hs, fun σ H γ G Q3 Q hs hr h3 k => ?_⟩
  refine q1 σ H γ G _ _ hs hr h3 fun J J3 H1 G1 x r sj h => fun D hD => ?_
  obtain ⟨all, _, h⟩ := h D (r.free hD)
  exact lc_sim sj hv (hs.ext x) (r.new hD ⟨_, upd_same, .nil⟩) hD h fun v H' w G' y => k v H' w G' (x.trans y)
theorem ps3_setLc {i : Nat} {y : Str} {py : Pos} {elt tg iter : Expr} {ifs : List Expr} {scope : Scope} {own : List (Str × Nat)} {is : List Nat} {pos spos : Pos} {wi : TI} {g : TG} {tt : TT} {te : TE} (hc : X.calm = true) (hN : X.N.Nodup) (hy : X.N[i]? = some y) (hyl : X.env.scope.names.lookup y = some .local)
    (hsw : swapsWith (.ListComp elt [⟨tg, iter, ifs, 0⟩] scope pos) (some (.Name y py)) spos.line X.env = pure true) (hi : PI3 X tg iter wi) (ok : BlkOk X.N X.env.scope scope own)
    (hg : ∀ (s : Shared) (H : Hp) (C : Addr) (cl : List (Str × Addr)) (fp : List Addr), PG3 (X.blk s H scope (compEnvC scope cl C X.env) fp) tg is g) (ht : ∀ (s : Shared) (H : Hp) (C : Addr) (cl : List (Str × Addr)) (fp : List Addr), PTs3 (X.blk s H scope (compEnvC scope cl C X.env) fp) ifs tt)
    (he : ∀ (s : Shared) (H : Hp) (C : Addr) (cl : List (Str × Addr)) (fp : List Addr), PE3 (X.blk s H scope (compEnvC scope cl C X.env) fp) elt te) (hv : ∀ i ∈ is, i ∈ own.map (·.2) := by decide) (hs : ∀ x, foldedSetIterable iter X.env x = pure x := by intro _; rfl) :
    PS3 X (.Assign [.Name y py] (.ListComp elt [⟨tg, iter, ifs, 0⟩] scope pos) spos) (sSet i (eLc wi g tt te (own.map (·.2)))) := fun E tk => by
  obtain ⟨t1, p1, q1⟩ := hi E tk
  refine ⟨_, ps_setLc (g := canG X.K is g) (tt := canT X.K (fun _ => X0) tt) (te := canE X.K (fun _ => X0) te) hc hN hy hyl hsw p1 ok (fun s H C cl fp => (hg s H C cl fp).can) (fun s H C cl fp => ht s H C cl fp) (fun s H C cl fp => (he s H C cl fp).can (E := fun _ => X0) takes0E) hs, fun D D3 σ H γ G hE ho hs hr h3 => ?_⟩
  cases E; dsimp only at hE; subst hE
  refine q1 σ H γ G _ _ hs hr h3 fun J J3 H1 G1 x r sj h => fun D hD => ?_
  obtain ⟨all, _, h⟩ := h D (r.free hD)
  exact lc_sim sj hv (hs.ext x) (r.new hD ⟨_, upd_same, .nil⟩) hD h fun v H' w G' y r' rv h => ho.nx _ H' _ G' (x.trans y) ((hs.ext (x.trans y)).put rv) r' h

/-! ### what is walked -/
variable {tg l : Expr} {tl : TE} {pos : Pos}
/-- what iter() gives of a value -/
def ItV (X : Cx) (tg : Expr) (r : V → Hp → (L2.It → Hp → Prop) → Prop) : Prop := ∀ (pins : List (Addr × Obj)) (s : Shared) (σ : St) (H : Hp) (x : V) (v : Value) (R : L2.It → Hp → Prop), Inv X pins σ H s → RelV x v → r x H R →
  wpAny (model X.prog X.w) X.A (pyIter v) (PIE X pins σ tg R) X.xe s
theorem itv_list : ItV X tg fun x H R => ∃ a, x = .ref a ∧ (∃ xs, SqL X.K H a xs) ∧ R (Itl X.K a) H := by
  intro pins s σ H x v R I r h
  obtain ⟨a, rfl, ⟨xs, hq⟩, q⟩ := h
  cases r
  obtain ⟨its, rv, p, hz⟩ := I.list hq
  have I' : Inv X pins σ H { s with heap := s.heap.push { cls := .type "list_iterator", data := .fields #[.ref a, rawInt 0] } } := I.kept (t' := s.toks) fun b o e => Heap.get?_push_of_some _ e
  refine wpAny_pyIter_list p.isList ⟨_, [s.heap.objs.size], _, _, H, rfl, I', turn_list a _, ⟨_, Heap.get?_push_size _ rfl, rfl, rfl⟩, ?_, q⟩
  intro b hb
  rw [List.mem_singleton.mp hb]
  exact I.fpOk (Nat.le_refl _) (I.hok.fresh (Nat.le_refl _))
theorem itv_tup : ItV X tg fun x H R => ∃ a, x = .ref a ∧ (∃ xs, SqT X.K H a xs) ∧ R (Itt X.K a) H := by
  intro pins s σ H x v R I r h
  obtain ⟨a, rfl, ⟨xs, hq⟩, q⟩ := h
  cases r
  obtain ⟨its, rv, p, hz⟩ := I.tuple hq
  have I' : Inv X pins σ H { s with heap := s.heap.push { cls := .type "tuple_iterator", data := .fields #[.ref a, rawInt 0] } } := I.kept (t' := s.toks) fun b o e => Heap.get?_push_of_some _ e
  refine wpAny_pyIter_tuple (show s.heap.IsTuple a its.toArray from p) ⟨_, [s.heap.objs.size], _, _, H, rfl, I', turn_tuple a _, ⟨_, Heap.get?_push_size _ rfl, rfl, rfl⟩, ?_, q⟩
  intro b hb
  rw [List.mem_singleton.mp hb]
  exact I.fpOk (Nat.le_refl _) (I.hok.fresh (Nat.le_refl _))
theorem itv_str : ItV X tg fun x H R => ∃ z, x = .str z ∧ R (Its z) H := by
  intro pins s σ H x v R I r h
  obtain ⟨z, rfl, q⟩ := h
  obtain ⟨t, rfl⟩ := r
  cases ha : z.cps.all (· < 128) with
  | false => exact wpAny_pyIter_wide ha (pi_one (tk := s.toks) I _ (turn_str _ z t "str_iterator" (Or.inr rfl)) ⟨_, Heap.get?_push_size _ rfl, rfl, rfl⟩ q)
  | true => exact wpAny_pyIter_ascii ha (pi_one (tk := s.toks) I _ (turn_str _ z t "str_ascii_iterator" (Or.inl rfl)) ⟨_, Heap.get?_push_size _ rfl, rfl, rfl⟩ q)
theorem ItV.or {r r' : V → Hp → (L2.It → Hp → Prop) → Prop} (a : ItV X tg r) (b : ItV X tg r') : ItV X tg fun x H R => r x H R ∨ r' x H R := fun pins s σ H x v R I rv h =>
  h.elim (a pins s σ H x v R I rv) (b pins s σ H x v R I rv)
theorem get_of_rep {K : Frag} {H : Hp} {ws : List W} {xs : List V} {i : Nat} {w : W} (r : RepL K H ws xs) (e : ws[i]? = some w) : ∃ x, xs[i]? = some x ∧ Rep K H w x := r.get e
theorem simIt_list {K : Frag} {H0 : Hp} {a : Addr} : SimIt K H0 (Itl K a) (items (.ref a)) := by
  intro i H G all x r e
  have e' : G a = some (.lst all) ∨ G a = some (.rdl all) := by
    cases q : G a with
    | none => simp only [items, q] at e; cases e
    | some o =>
      cases o with
      | lst ws => simp only [items, q] at e; cases e; exact .inl rfl
      | rdl ws => simp only [items, q] at e; cases e; exact .inr rfl
      | _ => simp only [items, q] at e; cases e
  obtain ⟨xs, h1, h2⟩ := r.seq e'
  refine ⟨fun w ew => ?_, fun hl => ⟨xs, h1, by rw [← h2.length]; exact hl⟩⟩
  obtain ⟨y, e1, e2⟩ := h2.get ew
  refine ⟨⟨xs, y, h1, e1⟩, fun z H' hy => ?_⟩
  obtain ⟨rfl, hy⟩ := hy
  have ez : z = y := Option.some.inj ((hy xs h1).symm.trans e1)
  subst ez
  exact ⟨.refl, r, e2⟩
theorem simIt_tup {K : Frag} {H0 : Hp} {a : Addr} {ws : List W} {xs : List V} (h1 : SqT K H0 a xs) (h2 : RepL K H0 ws xs) : SimIt K H0 (Itt K a) (items (.tup ws)) := by
  intro i H G all x r e
  cases e
  refine ⟨fun w ew => ?_, fun hl => ⟨xs, (x _ _).1 h1, by rw [← h2.length]; exact hl⟩⟩
  obtain ⟨y, e1, e2⟩ := (h2.ext x).get ew
  refine ⟨⟨xs, y, (x _ _).1 h1, e1⟩, fun z H' hy => ?_⟩
  obtain ⟨rfl, hy⟩ := hy
  have ez : z = y := Option.some.inj ((hy xs ((x _ _).1 h1)).symm.trans e1)
  subst ez
  exact ⟨.refl, r, e2⟩
theorem simIt_ktp {K : Frag} {H0 : Hp} {a : Addr} {ws : List W} {xs : List V} (h1 : SqT K H0 a xs) (h2 : RepL K H0 ws xs) : SimIt K H0 (Itt K a) (items (.ktp ws)) := by
  intro i H G all x r e
  cases e
  refine ⟨fun w ew => ?_, fun hl => ⟨xs, (x _ _).1 h1, by rw [← h2.length]; exact hl⟩⟩
  obtain ⟨y, e1, e2⟩ := (h2.ext x).get ew
  refine ⟨⟨xs, y, (x _ _).1 h1, e1⟩, fun z H' hy => ?_⟩
  obtain ⟨rfl, hy⟩ := hy
  have ez : z = y := Option.some.inj ((hy xs ((x _ _).1 h1)).symm.trans e1)
  subst ez
  exact ⟨.refl, r, e2⟩
theorem sql_none {K : Frag} {H : Hp} {a : Addr} {xs : List V} (h : SqL K (fun _ => none) a xs) : SqL K H a xs := by
  rcases h with (h | ⟨o, h⟩) | h
  · cases h
  · cases h
  · exact .inr h
theorem simIt_kl {K : Frag} {H0 : Hp} {a : Addr} {ws : List W} {xs : List V} (h1 : SqL K (fun _ => none) a xs) (h2 : RepL K H0 ws xs) : SimIt K H0 (Itl K a) (items (.kl ws)) := by
  intro i H G all x r e
  cases e
  refine ⟨fun w ew => ?_, fun hl => ⟨xs, sql_none h1, by rw [← h2.length]; exact hl⟩⟩
  obtain ⟨y, e1, e2⟩ := (h2.ext x).get ew
  refine ⟨⟨xs, y, sql_none h1, e1⟩, fun z H' hy => ?_⟩
  obtain ⟨rfl, hy⟩ := hy
  have ez : z = y := Option.some.inj ((hy xs (sql_none h1)).symm.trans e1)
  subst ez
  exact ⟨.refl, r, e2⟩
theorem simIt_str {K : Frag} {H0 : Hp} {l : List Nat} : SimIt K H0 (Its (S l)) (items (.str l)) := by
  intro i H G all x r e
  cases e
  have sz : (S l).cps.size = l.length := by simp [S]
  refine ⟨fun w ew => ?_, fun hl => ?_⟩
  · rw [List.getElem?_map] at ew
    cases q : l[i]? with
    | none => rw [q] at ew; cases ew
    | some c =>
      rw [q] at ew
      have hi : i < l.length := (List.getElem?_eq_some_iff.mp q).1
      refine ⟨by show i < (S l).cps.size; rw [sz]; exact hi, fun z H' hy => ?_⟩
      obtain ⟨rfl, c', ec, rfl⟩ := hy
      have ec' : l[i]? = some c' := by
        have : (S l).cps[i]? = l[i]? := by simp [S]
        rw [← this]; exact ec
      rw [q] at ec'
      cases ec'
      cases ew
      exact ⟨.refl, r, rstr⟩
  · show (S l).cps.size ≤ i
    rw [sz]
    rw [List.length_map] at hl
    exact hl
theorem pi3_val (h : PE3 X l tl) : PI3 X tg l (iVal tl) := fun E tk => by
  obtain ⟨t, p, q⟩ := h E tk
  have hv := (itv_list (X := X) (tg := tg)).or ((itv_tup (X := X) (tg := tg)).or itv_str)
  refine ⟨_, ⟨fun pins s σ H R I hw => thn (p.run pins s σ H _ I hw) fun v s1 ⟨x, H1, I1, r1, q1⟩ => hv pins s1 σ H1 x v R I1 r1 q1⟩, fun σ H γ G R3 R hs hr h3 k => ?_⟩
  refine q σ H γ G _ _ hs hr h3 fun v H1 w G1 x1 r1 rv h3 => ?_
  cases w with
  | tup ws =>
    obtain ⟨a, xs, rfl, s1, s2⟩ := rep_tup rv
    exact .inr (.inl ⟨a, rfl, ⟨xs, s1⟩, k _ _ H1 G1 x1 r1 (simIt_tup s1 s2) h3.2⟩)
  | ktp ws =>
    obtain ⟨a, xs, rfl, s1, s2⟩ := rep_ktp rv
    exact .inr (.inl ⟨a, rfl, ⟨xs, s1⟩, k _ _ H1 G1 x1 r1 (simIt_ktp s1 s2) h3.2⟩)
  | kl ws =>
    simp only [Rep] at rv
    obtain ⟨a, xs, rfl, s1, s2⟩ := rv
    exact .inl ⟨a, rfl, ⟨xs, sql_none s1⟩, k _ _ H1 G1 x1 r1 (simIt_kl s1 s2) h3.2⟩
  | str z =>
    simp only [Rep] at rv
    subst rv
    exact .inr (.inr ⟨_, rfl, k _ _ H1 G1 x1 r1 simIt_str h3.2⟩)
  | ref a =>
    simp only [Rep] at rv
    subst rv
    have hq : ∃ xs, SqL X.K H1 a xs := by
      cases q : G1 a with
      | none => have z := h3.1; simp only [items, q] at z; cases z
      | some o =>
        cases o with
        | lst ws => obtain ⟨xs, e, _⟩ := r1.seq (.inl q); exact ⟨xs, e⟩
        | rdl ws => obtain ⟨xs, e, _⟩ := r1.seq (.inr q); exact ⟨xs, e⟩
        | _ => have z := h3.1; simp only [items, q] at z; cases z
    exact .inl ⟨a, rfl, hq, k _ _ H1 G1 x1 r1 simIt_list h3.2⟩
  | _ => have z := h3.1; cases z
theorem simIt_rng {K : Frag} {H0 : Hp} {lo : Int} {n : Nat} : SimIt K H0 (Itr lo n) (fun _ => some (rangeW lo n)) := by
  intro i H G all x r e
  cases e
  have hl : (rangeW lo n).length = n := by simp [rangeW]
  refine ⟨fun w ew => ?_, fun h => by rw [hl] at h; exact h⟩
  have hi : i < n := by rw [← hl]; exact (List.getElem?_eq_some_iff.mp ew).1
  refine ⟨hi, fun z H' hy => ?_⟩
  obtain ⟨rfl, rfl⟩ := hy
  have e : w = .int (lo + i) := by
    unfold rangeW at ew
    rw [List.getElem?_map, List.getElem?_range hi] at ew
    exact (Option.some.inj ew).symm
  subst e
  exact ⟨.refl, r, rint⟩
theorem rep_int1 {K : Frag} {H : Hp} {i : Int} {v : V} (h : Rep K H (.int i) v) : v = .int i := by simpa only [Rep] using h
theorem repl1 {K : Frag} {H : Hp} {w : W} {vs : List V} (h : RepL K H [w] vs) : ∃ v, vs = [v] ∧ Rep K H w v := by
  simp only [RepL] at h
  obtain ⟨v, r, rfl, a, rfl⟩ := h
  exact ⟨v, rfl, a⟩
theorem repl2 {K : Frag} {H : Hp} {w z : W} {vs : List V} (h : RepL K H [w, z] vs) : ∃ v u, vs = [v, u] ∧ Rep K H w v ∧ Rep K H z u := by
  simp only [RepL] at h
  obtain ⟨v, r, rfl, a, u, r', rfl, b, rfl⟩ := h
  exact ⟨v, u, rfl, a, b⟩
theorem pi3_range1 {a : Expr} {ta : TA} {p : Pos} (hg : Gl X "range") (hm : X.mg "range" = none) (ha : PA3 X [a] ta) (hs : starEach [a] X.env = [(false, eval a X.env)] := by rfl) : PI3 X tg (.Call (.Name "range" p) [a] [] pos) (iRng1 ta) := fun E tk => by
  obtain ⟨t, p1, q⟩ := ha E tk
  refine ⟨_, pi_range1 hg hm p1 hs, fun σ H γ G R3 R hs hr h3 k => ?_⟩
  refine q σ H γ G _ _ hs hr h3 fun vs H1 ws G1 x1 r1 rv h3 => ?_
  split at h3
  · obtain ⟨v, rfl, r1v⟩ := repl1 rv
    rw [rep_int1 r1v]
    exact ⟨_, rfl, h3.1.1, h3.1.2, k _ _ H1 G1 x1 r1 simIt_rng h3.2⟩
  · exact h3.elim
theorem pi3_range2 {a b : Expr} {ta : TA} {p : Pos} (hg : Gl X "range") (hm : X.mg "range" = none) (ha : PA3 X [a, b] ta) (hs : starEach [a, b] X.env = [(false, eval a X.env), (false, eval b X.env)] := by rfl) (hs2 : starEach [b] X.env = [(false, eval b X.env)] := by rfl) : PI3 X tg (.Call (.Name "range" p) [a, b] [] pos) (iRng2 ta) := fun E tk => by
  obtain ⟨t, p1, q⟩ := ha E tk
  refine ⟨_, pi_range2 hg hm p1 hs hs2, fun σ H γ G R3 R hs hr h3 k => ?_⟩
  refine q σ H γ G _ _ hs hr h3 fun vs H1 ws G1 x1 r1 rv h3 => ?_
  split at h3
  · obtain ⟨v, u, rfl, r1v, ru⟩ := repl2 rv
    rw [rep_int1 r1v, rep_int1 ru]
    exact ⟨_, _, rfl, ⟨h3.1.1, h3.1.2, h3.2.1.1, h3.2.1.2⟩, k _ _ H1 G1 x1 r1 simIt_rng h3.2.2⟩
  · exact h3.elim
end

/-! ### calls of defs -/
/-- what a def promises, in the hand layer's words -/
def low (K : Frag) (sp : Sp) : L2.Sp := fun vs H Q E => ∃ ws G Q3 E3, RepL K H ws vs ∧ Rel K H G ∧ sp ws G Q3 E3 ∧
  (∀ v H' w G', Ext K H H' → Rel K H' G' → Rep K H' w v → Q3 w G' → Q v H') ∧ (∀ d H' w es G', Rel K H' G' → exRep K H' d es → E3 w es G' → E (clsV w) d H')
/-- room for k calls, one in the other, and for what a body does besides -/
structure Rm (k : Nat) (A : Around) : Prop where
  hd : A.handled = none
  dp : A.depth + k + 30 < recursionLimit
  un : A.units + 4 * k + 320 < cLine
theorem Rm.mono {j k : Nat} {A : Around} (r : Rm k A) (h : j ≤ k) : Rm j A := ⟨r.hd, by have := r.dp; omega, by have := r.un; omega⟩
theorem Rm.down {k : Nat} {A : Around} (r : Rm (k + 1) A) (e : Env) : Rm k (A.deeper e) := by
  have h1 := r.dp
  have h2 := r.un
  exact ⟨r.hd, show A.depth + 1 + k + 30 < _ by omega, show A.units + 3 + 4 * k + 320 < _ by omega⟩
theorem Rm.room {k j : Nat} {A : Around} (r : Rm k A) (h1 : 3 * j ≤ k + 25) (h2 : 16 * j ≤ 4 * k + 120) : Room j A := ⟨r.hd, by have := r.dp; omega, by have := r.un; omega⟩
theorem Rm.room2 {k : Nat} {A : Around} (r : Rm k A) : Room 2 A := r.room (by omega) (by omega)
theorem Rm.of {k j : Nat} {A : Around} (r : Room j A) (h1 : k + 25 ≤ 3 * j) (h2 : 4 * k + 120 ≤ 16 * j) : Rm k A := ⟨r.hd, by have := r.dp; omega, by have := r.un; omega⟩
/-- a def keeps its promise, where there is room for k calls -/
structure FnR (P : Program) (w : World) (K : Frag) (mg : Str → Option Value) (base : Heap) (C : CXT) (k : Nat) (f : Addr) (fd : FuncData) (ps : List Str) (sp : L2.Sp) : Prop where
  len : ∀ vs H Q E, sp vs H Q E → vs.length = ps.length
  run : ∀ A o s H as us vs Q E, Rm k A → Env0 P w K mg base A o s H →
    BindsTo s fd as (ps.zip us) → Vals vs us → sp vs H Q E →
    codeAny (model P w) A (.call (.ref f) as) (CR C o P w H s Q E) s
theorem FnR.toOk {P : Program} {w : World} {K : Frag} {mg : Str → Option Value} {base : Heap} {C : CXT} {k j : Nat} {f : Addr} {fd : FuncData} {ps : List Str} {sp : L2.Sp} (F : FnR P w K mg base C k f fd ps sp) (h1 : k + 25 ≤ 3 * j) (h2 : 4 * k + 120 ≤ 16 * j) : FnOk P w K mg base C j f fd ps sp :=
  ⟨F.len, fun A o s H as us vs Q E r => F.run A o s H as us vs Q E (.of r h1 h2)⟩
abbrev Ok3 (P : Program) (w : World) (K : Frag) (mg : Str → Option Value) (base : Heap) (k : Nat) (f : Addr) (fd : FuncData) (ps : List Str) (sp : Sp) : Prop := FnR P w K mg base (CXM P w) k f fd ps (low K sp)
theorem ub_ext {K : Frag} {fs : List Addr} {H H' : Hp} {h B h' : Heap} (u : UB fs H H' h B h') : Ext K H H' := fun a xs => by
  refine ⟨fun q => ?_, fun q => u.tups a xs q, fun o v q => u.frzs a o v q⟩
  rcases q with (q | ⟨o, q⟩) | q
  · exact .inl (.inl (u.tups a xs q))
  · exact .inl (.inr ⟨o, u.frzs a o _ q⟩)
  · exact .inr q
section
variable {X : Cx} {k : Nat} {f C : Addr} {fd : FuncData} {ps : List Str} {sp : Sp} {x m : Str} {p pos apos : Pos} {e o : Expr} {es : List Expr} {te : TE} {ta : TA} {Wx : WX}
/-- the callee runs; what it raises is wished for at these slots -/
theorem run3 {pins : List (Addr × Obj)} {σ : St} {H : Hp} {s : Shared} {Q : VK} {E : XK} {us : List Value} {vs : List V} {sp : L2.Sp} (F : FnR X.prog X.w X.K X.mg X.base (CXM X.prog X.w) k f fd ps sp) (hr : Rm k X.A) (hb : Binds X.K fd ps []) (tk : TkM X Wx)
    (hE : ∀ cls d H', Ext X.K H H' → E cls d H' → Wx cls d σ H') (I : Inv X pins σ H s) (r : Vals vs us) (h : sp vs H Q E) : wpAny (model X.prog X.w) X.A (call (.ref f) us) (EP X pins σ Q) X.xe s := by
  have hl : us.length = ps.length := r.length.symm.trans (F.len _ _ _ _ h)
  have b := hb s us I.kIn (by rw [List.append_nil]; exact hl)
  rw [List.append_nil] at b
  refine wpAny_call (codeAny_mono (F.run X.A X.stack s H ⟨us, []⟩ us vs Q E hr I.env0 b r h) fun res s' hq => ?_)
  match res, hq with
  | .error u, hq =>
    obtain ⟨a, B, H', cls, d, eu, fl, hok, ub, na, os, ag, he⟩ := hq
    exact tkM_call (E := fun cls d H' => E cls d H' ∧ Ext X.K H H') tk I (fun cls d H' z => hE cls d H' z.2 z.1) ⟨a, B, H', cls, d, eu, fl, hok, ub, na, os, ag, he, ub_ext ub⟩
  | .ok (.ret u), hq => exact I.after hq
/-- the promise at these slots -/
def tAt (K : Frag) (sp : L2.Sp) (Wx : WX) (t : L2.TA) : L2.TE := fun σ H Q => t σ H fun vs H1 => ∃ E : XK, (∀ cls d H', Ext K H1 H' → E cls d H' → Wx cls d σ H') ∧ sp vs H1 Q E
theorem at_sim {K : Frag} {E : EX} {t : L2.TA} (q : SimA K E.h0 t fun γ G Q => ta γ G (E γ) Q) : SimE K E.h0 (tAt K (low K sp) (lowX K E) t) fun γ G Q => eCall sp ta γ G (E γ) Q := by
  intro σ H γ G Q3 Q hs hr h3 k
  refine q σ H γ G _ _ hs hr h3 fun vs H1 ws G1 x1 r1 rv h3 => ?_
  refine ⟨fun cls d H' => ∃ w es G', Rel K H' G' ∧ cls = clsV w ∧ exRep K H' d es ∧ E γ w es G', fun cls d H' x ⟨w, es, G', a, b, c, z⟩ => ⟨γ, G', w, es, (hs.ext x1).ext x, a, b, c, z⟩, ws, G1, Q3, E γ, rv, r1, h3, fun v H' w G' x => k v H' w G' (x1.trans x), fun d H' w es G' a b z => ⟨w, es, G', a, rfl, b, z⟩⟩
theorem pe3_call (F : Ok3 X.prog X.w X.K X.mg X.base k f fd ps sp) (hr : Rm k X.A) (hg : Gl X x) (hm : X.mg x = some (.ref f)) (hk : PySem.W.keepIn X.K (.ref f) = true) (hb : Binds X.K fd ps [])
    (ha : PA3 X (e :: es) ta) (hdb : (x == ("__debug__" : Str)) = false := by decide) (he : starEach (e :: es) X.env = (false, eval e X.env) :: starEach es X.env := by rfl) (hpl : (backTo pos (starEach es X.env)).any (·.1) = false := by rfl) :
    PE3 X (.Call (.Name x p) (e :: es) [] pos) (eCall sp ta) := fun E tk => by
  obtain ⟨t, p1, q⟩ := ha E tk
  refine ⟨_, ⟨fun pins s σ H Q I h => wpAny_Call_Name_kw (ld_glob I hg hm ?_ hdb)⟩, at_sim q⟩
  refine PySem.W.callWith_K (h₀ := X.base) I.ok.mod.kin hk (thn (p1.run pos pins s σ H _ I h) fun us s1 ⟨vs, H1, I1, r, XK', hE, q⟩ => ⟨I1.kIn, ?_⟩) he hpl
  exact run3 F hr hb tk hE I1 r q
theorem pe3_call0 (F : Ok3 X.prog X.w X.K X.mg X.base k f fd ps sp) (hr : Rm k X.A) (hg : Gl X x) (hm : X.mg x = some (.ref f)) (hk : PySem.W.keepIn X.K (.ref f) = true) (hb : Binds X.K fd ps [])
    (hdb : (x == ("__debug__" : Str)) = false := by decide) : PE3 X (.Call (.Name x p) [] [] pos) (eCall sp aNil) := fun E tk => by
  obtain ⟨t, p1, q⟩ := (pa3_nil (X := X)) E tk
  refine ⟨tAt X.K (low X.K sp) (lowX X.K E) tNil, ⟨fun pins s σ H Q I h => wpAny_Call_Name_kw (ld_glob I hg hm ?_ hdb)⟩, at_sim fun σ H γ G Q3 Q hs hr h3 k => k [] H [] G .refl hr .nil h3⟩
  obtain ⟨XK', hE, q⟩ := h
  exact PySem.W.callWith_K0 I.kIn hk (run3 (us := []) F hr hb tk hE I .nil q)

/-! ### built-ins, by values -/
def CallR3 (X : Cx) (f : Value) (r3 : List W → Gh → QV → Prop) : Prop := ∃ r : List V → Hp → VK → Prop, CallR X f r ∧ ∀ ws vs H G Q3 Q, Rel X.K H G → RepL X.K H ws vs → r3 ws G Q3 →
  (∀ v H' w G', Ext X.K H H' → Rel X.K H' G' → Rep X.K H' w v → Q3 w G' → Q v H') → r vs H Q
theorem pe3_blt {id : String} {r3 : List W → Gh → QV → Prop} (hc : CallR3 X (.builtin id) r3) (hg : Gl X x) (hm : X.mg x = none) (hv : bootBuiltins x = some (.builtin id)) (ha : PA3 X (e :: es) ta) (hn : x ≠ "__name__" := by decide) (hdb : (x == ("__debug__" : Str)) = false := by decide)
    (he : starEach (e :: es) X.env = (false, eval e X.env) :: starEach es X.env := by rfl) (hpl : (backTo pos (starEach es X.env)).any (·.1) = false := by rfl) : PE3 X (.Call (.Name x p) (e :: es) [] pos) (eBlt r3 ta) := fun E tk => by
  obtain ⟨r, c1, c2⟩ := hc
  obtain ⟨t, p1, q⟩ := ha E tk
  refine ⟨_, pe_callB c1 hg hm hv p1 hn hdb he hpl, fun σ H γ G Q3 Q hs hr h3 k => ?_⟩
  refine q σ H γ G _ _ hs hr h3 fun vs H1 ws G1 x1 r1 rv h3 => ?_
  exact c2 ws vs H1 G1 _ _ r1 rv h3 fun v H' w G' x => k v H' w G' (x1.trans x)
theorem pe3_bty {T : String} {r3 : List W → Gh → QV → Prop} (hc : CallR3 X (.type T) r3) (hg : Gl X x) (hm : X.mg x = none) (hv : bootBuiltins x = some (.type T)) (ha : PA3 X (e :: es) ta) (hn : x ≠ "__name__" := by decide) (hdb : (x == ("__debug__" : Str)) = false := by decide)
    (he : starEach (e :: es) X.env = (false, eval e X.env) :: starEach es X.env := by rfl) (hpl : (backTo pos (starEach es X.env)).any (·.1) = false := by rfl) : PE3 X (.Call (.Name x p) (e :: es) [] pos) (eBlt r3 ta) := fun E tk => by
  obtain ⟨r, c1, c2⟩ := hc
  obtain ⟨t, p1, q⟩ := ha E tk
  refine ⟨_, pe_callTy c1 hg hm hv p1 hn hdb he hpl, fun σ H γ G Q3 Q hs hr h3 k => ?_⟩
  refine q σ H γ G _ _ hs hr h3 fun vs H1 ws G1 x1 r1 rv h3 => ?_
  exact c2 ws vs H1 G1 _ _ r1 rv h3 fun v H' w G' x => k v H' w G' (x1.trans x)
/-- a method of a built-in, by values -/
def MtR3 (X : Cx) (id : String) (r3 : W → List W → Gh → QV → Prop) : Prop := ∃ r : V → List V → Hp → VK → Prop, MtR X id r ∧ (∀ w v ws vs H G Q3 Q, Rel X.K H G → Rep X.K H w v → RepL X.K H ws vs → r3 w ws G Q3 →
  (∀ v H' w G', Ext X.K H H' → Rel X.K H' G' → Rep X.K H' w v → Q3 w G' → Q v H') → r v vs H Q)
theorem tyW_ok {K : Frag} {T : String} {w : W} {v : V} {H : Hp} {G : Gh} (r : Rel K H G) (rv : Rep K H w v) (h : tyW T w G) : tyV K T v H := by
  cases w with
  | str l => simp only [Rep] at rv; subst rv; exact h
  | ref a =>
    simp only [Rep] at rv; subst rv
    cases e : G a with
    | none => simp only [tyW, e] at h
    | some o =>
      cases o with
      | lst ws =>
        simp only [tyW, e] at h
        obtain ⟨xs, q, _⟩ := r.seq (.inl e)
        exact .inl ⟨h, xs, q⟩
      | rdl ws =>
        simp only [tyW, e] at h
        obtain ⟨xs, q, _⟩ := r.seq (.inr e)
        exact .inl ⟨h, xs, q⟩
      | dct ws =>
        simp only [tyW, e] at h
        obtain ⟨xs, q, _⟩ := r a _ e
        exact .inr (.inr (.inl ⟨h, .inl ⟨xs, q⟩⟩))
      | dtt ws =>
        simp only [tyW, e] at h
        obtain ⟨xs, q, _⟩ := r a _ e
        exact .inr (.inr (.inl ⟨h, .inr ⟨xs, q⟩⟩))
      | ins C ns ws => simp only [tyW, e] at h
      | exo C ns ws => simp only [tyW, e] at h
      | rdc ws => simp only [tyW, e] at h
      | rdt ws => simp only [tyW, e] at h
  | _ => exact h.elim
theorem pe3_bm {name : Str} {T id : String} {cpos : Pos} {to : TE} {r3 : W → List W → Gh → QV → Prop} (pa : PlainAttrs T) (slot : Slot T name id) (hty : typeOf (.builtin id) = pure (.type "method_descriptor")) (hm : MtR3 X id r3) (ho : PE3 X o to) (ha : PA3 X (e :: es) ta)
    (hbase : attributeBase o name X.env (eval o X.env) = eval o X.env := by rfl)
    (hfew : ((backTo cpos (starEach (e :: es) X.env)).all (fun x => !x.1) && (backToKw cpos (keywordEach [] X.env)).all (fun x => x.1.isSome) && decide ((e :: es).length + ([] : List Keyword).length + (if ([] : List Keyword).isEmpty then 0 else 1) < 30)) = true := by rfl)
    (hline : (apos.endLine == cpos.line) = true := by rfl) (hs : starEach (e :: es) X.env = (false, eval e X.env) :: starEach es X.env := by rfl) (hplain : (backTo cpos (starEach es X.env)).any (·.1) = false := by rfl) :
    PE3 X (.Call (.Attribute o name apos) (e :: es) [] cpos) (eBm T r3 to ta) := fun E tk => by
  obtain ⟨r, c1, c2⟩ := hm
  obtain ⟨t, p1, q1⟩ := ho E tk
  obtain ⟨u, p2, q2⟩ := ha E tk
  refine ⟨_, pe_bm pa slot hty c1 p1 p2 hbase hfew hline hs hplain, fun σ H γ G Q3 Q hs hr h3 k => ?_⟩
  refine q1 σ H γ G _ _ hs hr h3 fun v H1 w G1 x1 r1 rv h3 => ⟨tyW_ok r1 rv h3.1, ?_⟩
  refine q2 σ H1 γ G1 _ _ (hs.ext x1) r1 h3.2 fun vs H2 ws G2 x2 r2 rvs h3 => ?_
  exact c2 w v ws vs H2 G2 _ _ r2 (rv.ext x2) rvs h3 fun v3 H3 w3 G3 x3 => k v3 H3 w3 G3 ((x1.trans x2).trans x3)
theorem pe3_bm0 {name : Str} {T id : String} {cpos : Pos} {to : TE} {r3 : W → List W → Gh → QV → Prop} (pa : PlainAttrs T) (slot : Slot T name id) (hty : typeOf (.builtin id) = pure (.type "method_descriptor")) (hm : MtR3 X id r3) (ho : PE3 X o to)
    (hbase : attributeBase o name X.env (eval o X.env) = eval o X.env := by rfl) (hline : (apos.endLine == cpos.line) = true := by rfl) :
    PE3 X (.Call (.Attribute o name apos) [] [] cpos) (eBm T r3 to aNil) := fun E tk => by
  obtain ⟨r, c1, c2⟩ := hm
  obtain ⟨t, p1, q1⟩ := ho E tk
  refine ⟨_, pe_bm0 pa slot hty c1 p1 hbase hline, fun σ H γ G Q3 Q hs hr h3 k => ?_⟩
  refine q1 σ H γ G _ _ hs hr h3 fun v H1 w G1 x1 r1 rv h3 => ⟨tyW_ok r1 rv h3.1, ?_⟩
  exact c2 w v [] [] H1 G1 _ _ r1 rv .nil h3.2 fun v3 H3 w3 G3 x3 => k v3 H3 w3 G3 (x1.trans x3)

/-! ### displays, subscripts, slices -/
theorem rep_new_tup {K : Frag} {H : Hp} {p : Addr} {ws : List W} {xs : List V} (hp : H p = none) (r : RepL K H ws xs) : Rep K (upd H p (.tup xs)) (.tup ws) (.ref p) := by
  simp only [Rep]
  exact ⟨p, xs, rfl, upd_same, r.ext (.new hp)⟩
theorem pe3_tup {x1} (h : PA3 X es ta) : PE3 X (.Tuple es x1 pos) (eTup ta) := fun E tk => by
  obtain ⟨t, p1, q⟩ := h E tk
  refine ⟨_, pe_tup p1, fun σ H γ G Q3 Q hs hr h3 k => ?_⟩
  refine q σ H γ G _ _ hs hr h3 fun vs H1 ws G1 x1 r1 rv h3 => ⟨by rw [← rv.length]; exact h3.1, fun p hp => ?_⟩
  exact k _ _ _ G1 (x1.trans (.new hp)) (r1.hid hp) (rep_new_tup hp rv) h3.2
theorem pe3_lst (h : PA3 X es ta) : PE3 X (.List es pos) (eLst ta) := fun E tk => by
  obtain ⟨t, p1, q⟩ := h E tk
  refine ⟨_, pe_lst p1, fun σ H γ G Q3 Q hs hr h3 k => ?_⟩
  refine q σ H γ G _ _ hs hr h3 fun vs H1 ws G1 x1 r1 rv h3 => ⟨by rw [← rv.length]; exact h3.1, fun p hp => ?_⟩
  exact k _ _ _ _ (x1.trans (.new hp)) (r1.new (o := .lst ws) hp ⟨_, upd_same, rv.ext (.new hp)⟩) rref (h3.2 p (r1.free hp))
def IxR3 (X : Cx) (r3 : R2) : Prop := ∃ r : L2.R2, IxR X r ∧ ∀ x y v u H G Q3 Q, Rel X.K H G → Rep X.K H x v → Rep X.K H y u → r3 x y G Q3 →
  (∀ v H' w G', Ext X.K H H' → Rel X.K H' G' → Rep X.K H' w v → Q3 w G' → Q v H') → r v u H Q
theorem pe3_ix {a b : Expr} {ta tb : TE} {r3 : R2} (hr : IxR3 X r3) (ha : PE3 X a ta) (hb : PE3 X b tb) (hs : PlainIx b) : PE3 X (.Subscript a b pos) (eOp r3 ta tb) := fun E tk => by
  obtain ⟨r, h1, h2⟩ := hr
  obtain ⟨t, p1, q1⟩ := ha E tk
  obtain ⟨u, p2, q2⟩ := hb E tk
  refine ⟨_, pe_ix h1 p1 p2 hs, fun σ H γ G Q3 Q hs hr h3 k => ?_⟩
  refine q1 σ H γ G _ _ hs hr h3 fun v H1 w G1 x1 r1 rv h3 => ?_
  refine q2 σ H1 γ G1 _ _ (hs.ext x1) r1 h3 fun v2 H2 w2 G2 x2 r2 rv2 h3 => ?_
  exact h2 _ _ _ _ _ _ _ _ r2 (rv.ext x2) rv2 h3 fun v3 H3 w3 G3 x3 => k v3 H3 w3 G3 ((x1.trans x2).trans x3)
def SimO (K : Frag) (Z0 : Hp) (t : L2.TO) (t3 : Fr → Gh → (Option Int → Gh → Prop) → Prop) : Prop := ∀ (σ : St) (H : Hp) (γ : Fr) (G : Gh) (Q3 : Option Int → Gh → Prop) (Q : Option Int → Hp → Prop), RepS K Z0 H γ σ → Rel K H G → t3 γ G Q3 →
  (∀ i H' G', Ext K H H' → Rel K H' G' → Q3 i G' → Q i H') → t σ H Q
def PO3 (X : Cx) (e : Option Expr) (t3 : TO) : Prop := ∀ E : EX, TakesE X E → ∃ t, PO X e t ∧ SimO X.K E.h0 t fun γ G Q => t3 γ G (E γ) Q
theorem po3_none : PO3 X none oNo := fun E tk => ⟨_, po_none, fun σ H γ G Q3 Q hs hr h3 k => k none H G .refl hr h3⟩
theorem po3_some (h : PE3 X e te) : PO3 X (some e) (oPart te) := fun E tk => by
  obtain ⟨t, p, q⟩ := h E tk
  refine ⟨_, po_some p, fun σ H γ G Q3 Q hs hr h3 k => ?_⟩
  refine q σ H γ G _ _ hs hr h3 fun v H1 w G1 x1 r1 rv h3 => ?_
  cases w with
  | int i => exact ⟨i, rep_int1 rv, k _ H1 G1 x1 r1 h3⟩
  | _ => exact h3.elim
theorem sIx_clip (n : Nat) (i : Int) (d : Nat) : HT.sIx n d (some i) = clip n i := by
  show (if i < 0 then (i + (n : Int)).toNat else min i.toNat n) = if 0 ≤ i then min i.toNat n else n - (-i).toNat
  split <;> split <;> omega
theorem lo_eq (n : Nat) (o : Option Int) : HT.sIx n 0 o = lo_ n o := by
  cases o with
  | none => rfl
  | some i => exact sIx_clip n i 0
theorem hi_eq (n : Nat) (o : Option Int) : HT.sIx n n o = hi_ n o := by
  cases o with
  | none => rfl
  | some i => exact sIx_clip n i n
theorem cut_eq (xs : List V) (lo hi : Option Int) : cutV xs lo hi = cut xs lo hi := by unfold cutV cut; rw [lo_eq, hi_eq]
theorem RepL.cut {K : Frag} {H : Hp} {ws : List W} {xs : List V} (r : RepL K H ws xs) (lo hi : Option Int) : RepL K H (L3.cut ws lo hi) (L3.cut xs lo hi) := by
  unfold L3.cut
  rw [r.length]
  exact (r.drop _).take _
theorem cutS_eq (l : List Nat) (lo hi : Option Int) : cutS (S l) lo hi = S (cut l lo hi) := by
  unfold cutS cut
  rw [lo_eq, hi_eq, S_length, S_toList]
  rfl
end
end L3

end
section
/-! L3SndD: the operations. -/
namespace L3
open PySem PySem.Spec PyProof.Rows L2
theorem sz_eq : sizeLine = SZ := by decide
theorem rep_str1 {K : Frag} {H : Hp} {l : List Nat} {v : V} (h : Rep K H (.str l) v) : v = .str (S l) := by simp only [Rep] at h; exact h
theorem rep_ref1 {K : Frag} {H : Hp} {p : Addr} {v : V} (h : Rep K H (.ref p) v) : v = .ref p := by simpa only [Rep] using h
theorem rep_non1 {K : Frag} {H : Hp} {v : V} (h : Rep K H .non v) : v = .non := by simpa only [Rep] using h
theorem rep_ty1 {K : Frag} {H : Hp} {n : String} {v : V} (h : Rep K H (.ty n) v) : v = .ty n := by simpa only [Rep] using h
section
variable {X : Cx}
/-- ints in, an int out -/
theorem opI3 {f : Value → Value → Sem Value} {C : Int → Int → Prop} {g : Int → Int → V} {g3 : Int → Int → W} (ho : OpR X f (rI C g)) (hg : ∀ K H i j, Rep K H (g3 i j) (g i j)) :
    OpR3 X f (fun x y G Q => match x with | .int i => (match y with | .int j => C i j ∧ Q (g3 i j) G | _ => False) | _ => False) := by
  refine ⟨_, ho, fun x y v u H G Q3 Q r rv ru h k => ?_⟩
  cases x with
  | int i =>
    cases y with
    | int j => exact ⟨i, j, rep_int1 rv, rep_int1 ru, h.1, k _ H _ G .refl r (hg _ _ i j) h.2⟩
    | _ => exact h.elim
  | _ => exact h.elim
theorem opI03 {f : Value → Value → Sem Value} {g : Int → Int → V} {g3 : Int → Int → W} (ho : OpR X f (rI0 g)) (hg : ∀ K H i j, Rep K H (g3 i j) (g i j)) :
    OpR3 X f (fun x y G Q => match x with | .int i => (match y with | .int j => Q (g3 i j) G | _ => False) | _ => False) := by
  refine ⟨_, ho, fun x y v u H G Q3 Q r rv ru h k => ?_⟩
  cases x with
  | int i =>
    cases y with
    | int j => exact ⟨i, j, rep_int1 rv, rep_int1 ru, k _ H _ G .refl r (hg _ _ i j) h⟩
    | _ => exact h.elim
  | _ => exact h.elim
theorem o_sub : OpR3 X (binaryOp .Sub) rSub := opI03 op_sub fun _ _ _ _ => rint
theorem o_isub : OpR3 X (inplaceOp .Sub) rSub := opI03 iop_sub fun _ _ _ _ => rint
theorem o_mod : OpR3 X (binaryOp .Mod) rMod := opI3 op_mod fun _ _ _ _ => rint
theorem o_imod : OpR3 X (inplaceOp .Mod) rMod := opI3 iop_mod fun _ _ _ _ => rint
theorem fold_rep (l : List Nat) : ∀ (k : Nat) (acc : Array Nat), (List.replicate k l.toArray).foldl (· ++ ·) acc = acc ++ ((List.replicate k l).flatten).toArray
  | 0, acc => by simp
  | k + 1, acc => by
    rw [List.replicate_succ, List.foldl_cons, fold_rep l k, List.replicate_succ, List.flatten_cons]
    simp
theorem op_mul_str : OpR X (binaryOp .Mult) (fun x y H Q => ∃ (l : List Nat) (k : Nat), x = .str (S l) ∧ y = .int (k : Int) ∧ 1 ≤ k ∧ k < 1000000 ∧ l.length * k ≤ 16777216 ∧ Q (.str (S (List.replicate k l).flatten)) H) := by
  intro pins s σ H x y v u Q I rx ry h
  obtain ⟨l, k, rfl, rfl, h1, hk, hz, q⟩ := h
  obtain ⟨t, rfl⟩ := rx
  obtain ⟨t', rfl⟩ := ry
  have hl : (S l).length = l.length := S_length l
  refine PySem.P.mul_str ?_ (fun _ _ => ?_) (fun _ _ => ?_) ?_
  · rw [decide_eq_false (by omega), decide_eq_false (by omega)]; rfl
  · rw [hl]
    intro z
    have h3 : ((2 : Int) ^ 63 - 1) / (k : Int) < l.length := z
    have h4 := Int.lt_mul_of_ediv_lt (show (0 : Int) < k by omega) h3
    have h5 : ((l.length * k : Nat) : Int) ≤ 16777216 := by omega
    rw [Int.natCast_mul] at h5
    omega
  · rw [hl, Int.toNat_natCast]
    show decide (l.length * k > sizeLine) = false
    have hs : sizeLine = 16777216 := rfl
    exact decide_eq_false (by omega)
  · rw [if_neg (by omega)]
    split
    · rename_i hc
      have e : (List.replicate k l).flatten = l := by
        rw [Bool.or_eq_true] at hc
        rcases hc with hc | hc
        · have : k = 1 := by have := eq_of_beq hc; omega
          subst this; simp
        · have hn : l.length = 0 := by rw [← hl]; exact eq_of_beq hc
          have : l = [] := List.eq_nil_of_length_eq_zero hn
          subst this; simp
      rw [e] at q
      exact ⟨.str (S l), H, I, ⟨t, rfl⟩, q⟩
    · have e : (⟨(List.replicate ((k : Int).toNat) (S l).cps).foldl (· ++ ·) #[]⟩ : Str) = S (List.replicate k l).flatten := by
        rw [Int.toNat_natCast]
        show (⟨(List.replicate k l.toArray).foldl (· ++ ·) #[]⟩ : Str) = _
        rw [fold_rep]
        simp [S]
      rw [e]
      refine ⟨?_, ⟨.str _, H, I.tok _, ⟨_, rfl⟩, q⟩⟩
      have e9 : (List.replicate k l).flatten.length = l.length * k := by simp [List.length_flatten, Nat.mul_comm]
      rw [S_length, e9]
      have hs : sizeLine = 16777216 := rfl
      omega
theorem o_mul : OpR3 X (binaryOp .Mult) rMul := by
  obtain ⟨r, ho, e⟩ : ∃ r, OpR X (binaryOp .Mult) r ∧ r = rI CMul fun i j => .int (i * j) := ⟨_, op_mul, rfl⟩
  subst e
  refine ⟨_, ho.or op_mul_str, fun x y v u H G Q3 Q r rv ru h k => ?_⟩
  cases x with
  | int i =>
    cases y with
    | int j => exact .inl ⟨i, j, rep_int1 rv, rep_int1 ru, h.1, k _ H _ G .refl r rint h.2⟩
    | _ => exact h.elim
  | str a =>
    cases y with
    | int j =>
      obtain ⟨h1, h2, h3, h4⟩ := h
      obtain ⟨n, rfl⟩ := Int.eq_ofNat_of_zero_le (show 0 ≤ j by omega)
      exact .inr ⟨a, n, rep_str1 rv, rep_int1 ru, by omega, by omega, by simpa using h3, k _ H _ G .refl r rstr (by simpa using h4)⟩
    | _ => exact h.elim
  | _ => exact h.elim
theorem div_of {f : Value → Value → Sem Value} (ho : OpR X f (rI CDiv fun i j => .int (i / j))) : OpR3 X f rDiv := by
  refine ⟨_, ho, fun x y v u H G Q3 Q r rv ru h k => ?_⟩
  cases x with
  | int i =>
    cases y with
    | int j => exact ⟨i, j, rep_int1 rv, rep_int1 ru, ⟨h.1, h.2.1⟩, k _ H _ G .refl r rint h.2.2⟩
    | _ => exact h.elim
  | _ => exact h.elim
theorem o_div : OpR3 X (binaryOp .FloorDiv) rDiv := div_of op_fdiv
theorem o_idiv : OpR3 X (inplaceOp .FloorDiv) rDiv := div_of iop_fdiv
theorem u_neg : UnR3 X (unaryOp .USub) rNeg := by
  refine ⟨_, un_neg, fun x v H G Q3 Q r rv h k => ?_⟩
  cases x with
  | int i => exact ⟨i, rep_int1 rv, k _ H _ G .refl r rint h⟩
  | _ => exact h.elim
theorem o_gt : OpR3 X (compareOp .Gt) rGt := opI03 op_gt fun _ _ _ _ => rbl
theorem o_ge : OpR3 X (compareOp .GtE) rGe := opI03 op_ge fun _ _ _ _ => rbl
theorem o_lt : OpR3 X (compareOp .Lt) rLt := by
  refine ⟨_, op_lt.or op_lt_str, fun x y v u H G Q3 Q r rv ru h k => ?_⟩
  cases x with
  | int i =>
    cases y with
    | int j => exact .inl ⟨i, j, rep_int1 rv, rep_int1 ru, k _ H _ G .refl r rbl h⟩
    | _ => exact h.elim
  | str a =>
    cases y with
    | str b => exact .inr ⟨S a, S b, rep_str1 rv, rep_str1 ru, k _ H _ G .refl r rbl (by simp only [S_toList]; exact h)⟩
    | _ => exact h.elim
  | _ => exact h.elim
theorem o_le : OpR3 X (compareOp .LtE) rLe := by
  refine ⟨_, op_le.or op_le_str, fun x y v u H G Q3 Q r rv ru h k => ?_⟩
  cases x with
  | int i =>
    cases y with
    | int j => exact .inl ⟨i, j, rep_int1 rv, rep_int1 ru, k _ H _ G .refl r rbl h⟩
    | _ => exact h.elim
  | str a =>
    cases y with
    | str b => exact .inr ⟨S a, S b, rep_str1 rv, rep_str1 ru, k _ H _ G .refl r rbl (by simp only [S_toList]; exact h)⟩
    | _ => exact h.elim
  | _ => exact h.elim
/-! ### + -/
theorem b2_eq (b : Bool) : b2i b = b2n b := by cases b <;> rfl
theorem lst_of {K : Frag} {H : Hp} {G : Gh} {a : Addr} {ws : List W} (r : Rel K H G) (e : G a = some (.lst ws)) : ∃ xs, H a = some (.lst xs) ∧ RepL K H ws xs := r.lst e
theorem o_add : OpR3 X (binaryOp .Add) rAdd := by
  refine ⟨_, op_add.or (op_add_ib.or (op_add_str.or (op_catA.or op_cat))), fun x y v u H G Q3 Q r rv ru h k => ?_⟩
  cases x with
  | int i =>
    cases y with
    | int j => exact .inl ⟨i, j, rep_int1 rv, rep_int1 ru, k _ H _ G .refl r rint h⟩
    | bl b => exact .inr (.inl ⟨i, b, rep_int1 rv, rep_bl ru, by rw [b2_eq]; exact k _ H _ G .refl r rint h⟩)
    | _ => exact h.elim
  | str a =>
    cases y with
    | str b =>
      refine .inr (.inr (.inl ⟨S a, S b, rep_str1 rv, rep_str1 ru, by rw [S_length, S_length, sz_eq]; exact h.1, ?_⟩))
      rw [S_append]
      exact k _ H _ G .refl r rstr h.2
    | _ => exact h.elim
  | tup a =>
    cases y with
    | tup b =>
      obtain ⟨p, xs, rfl, s1, s2⟩ := rep_tup rv
      obtain ⟨q, ys, rfl, s3, s4⟩ := rep_tup ru
      refine .inr (.inr (.inr (.inl ⟨p, q, xs, ys, rfl, rfl, s1, s3, by rw [← s2.length, ← s4.length, sz_eq]; exact h.1, fun e => ?_, fun _ e => ?_, fun _ _ t ht => ?_⟩)))
      · have : a = [] := by cases a with | nil => rfl | cons w ws => have z := s2.length; rw [e] at z; cases z
        subst this
        exact k _ H _ G .refl r ru (by simpa using h.2)
      · have : b = [] := by cases b with | nil => rfl | cons w ws => have z := s4.length; rw [e] at z; cases z
        subst this
        exact k _ H _ G .refl r rv (by simpa using h.2)
      · exact k _ _ _ G (.new ht) (r.hid ht) (rep_new_tup ht (s2.append s4)) h.2
    | _ => exact h.elim
  | ref a =>
    cases y with
    | ref b =>
      cases e1 : G a with
      | none => simp only [rAdd, e1] at h
      | some o =>
        cases o with
        | lst xs =>
          cases e2 : G b with
          | none => simp only [rAdd, e1, e2] at h
          | some o' =>
            cases o' with
            | lst ys =>
              simp only [rAdd, e1, e2] at h
              obtain ⟨vs, v1, v2⟩ := r.lst e1
              obtain ⟨us, u1, u2⟩ := r.lst e2
              refine .inr (.inr (.inr (.inr ⟨a, b, vs, us, rep_ref1 rv, rep_ref1 ru, v1, u1, by rw [← v2.length, ← u2.length, sz_eq]; exact h.1, fun p hp => ?_⟩)))
              exact k _ _ _ _ (.new hp) (r.new (o := .lst (xs ++ ys)) hp ⟨_, upd_same, (v2.append u2).ext (.new hp)⟩) rref (h.2 p (r.free hp))
            | _ => simp only [rAdd, e1, e2] at h
        | _ => simp only [rAdd, e1] at h
    | _ => exact h.elim
  | _ => exact h.elim
theorem o_iadd : OpR3 X (inplaceOp .Add) rIadd := by
  refine ⟨_, iop_add.or iop_add_str, fun x y v u H G Q3 Q r rv ru h k => ?_⟩
  cases x with
  | int i =>
    cases y with
    | int j => exact .inl ⟨i, j, rep_int1 rv, rep_int1 ru, k _ H _ G .refl r rint h⟩
    | _ => exact h.elim
  | str a =>
    cases y with
    | str b =>
      refine .inr ⟨S a, S b, rep_str1 rv, rep_str1 ru, by rw [S_length, S_length, sz_eq]; exact h.1, ?_⟩
      rw [S_append]
      exact k _ H _ G .refl r rstr h.2
    | _ => exact h.elim
  | _ => exact h.elim
/-! ### == -/
mutual
def pd : W → PyData
  | .non => .none
  | .bl b => .bool b
  | .int i => .int i
  | .str l => .str (S l)
  | .tup ws => .tuple (pdL ws)
  | .ref _ => .none
  | .ty _ => .none
  | .kl _ => .none
  | .ktp _ => .none
def pdL : List W → List PyData
  | [] => []
  | w :: ws => pd w :: pdL ws
end
theorem strOk_S {l : List Nat} (h : (l.all fun c => decide (c < 1114112)) = true) : PyData.strOk (S l) = true := by
  unfold PyData.strOk S
  simpa using h
theorem okD_pd : ∀ (n : Nat) (w : W), okD n w = true → (pd w).canLay0 = true ∧ (pd w).depth ≤ n := by
  intro n
  induction n with
  | zero =>
    intro w h
    cases w with
    | non => exact ⟨rfl, Nat.le_refl _⟩
    | bl b => exact ⟨rfl, Nat.le_refl _⟩
    | int i => exact ⟨rfl, Nat.le_refl _⟩
    | str l => exact ⟨by unfold pd PyData.canLay0; exact strOk_S h, by unfold pd PyData.depth; exact Nat.le_refl _⟩
    | _ => cases h
  | succ n ih =>
    intro w h
    cases w with
    | non => exact ⟨rfl, Nat.zero_le _⟩
    | bl b => exact ⟨rfl, Nat.zero_le _⟩
    | int i => exact ⟨rfl, Nat.zero_le _⟩
    | str l => exact ⟨by unfold pd PyData.canLay0; exact strOk_S h, by unfold pd PyData.depth; exact Nat.zero_le _⟩
    | tup ws =>
      have h' : ws.all (okD n) = true := h
      have key : ∀ ws : List W, ws.all (okD n) = true → PyData.canLayAll0 (pdL ws) = true ∧ PyData.depthAll (pdL ws) ≤ n := by
        intro ws
        induction ws with
        | nil => intro _; exact ⟨by unfold pdL PyData.canLayAll0; rfl, by unfold pdL PyData.depthAll; exact Nat.zero_le _⟩
        | cons w ws ihw =>
          intro q
          rw [List.all_cons, Bool.and_eq_true] at q
          obtain ⟨a1, a2⟩ := ih w q.1
          obtain ⟨b1, b2⟩ := ihw q.2
          refine ⟨by unfold pdL PyData.canLayAll0; rw [a1, b1]; rfl, by unfold pdL PyData.depthAll; exact Nat.max_le.mpr ⟨a2, b2⟩⟩
      obtain ⟨c1, c2⟩ := key ws h'
      exact ⟨by unfold pd PyData.canLay0; exact c1, by unfold pd PyData.depth; omega⟩
    | _ => cases h
theorem shaped_pd {w : W} (h : okD DP w = true) : SeqAt.shaped (pd w) = true := by
  obtain ⟨a, b⟩ := okD_pd _ w h
  unfold SeqAt.shaped
  have : (pd w).depth ≤ 64 := Nat.le_trans b (by decide)
  rw [a, Bool.true_and]
  exact decide_eq_true this
theorem eqv_bl (a b : Bool) : PyData.eqv (.bool a) (.bool b) = (a == b) := by simp only [PyData.eqv]
theorem okD_tupE {n : Nat} {ws : List W} (h : okD n (.tup ws) = true) : ∃ k, ws.all (okD k) = true := by
  cases n with
  | zero => cases h
  | succ k => exact ⟨k, h⟩
theorem okD_ref {n : Nat} {a : Nat} (h : okD n (.ref a) = true) : False := by cases n <;> cases h
theorem okD_ty {n : Nat} {a : String} (h : okD n (.ty a) = true) : False := by cases n <;> cases h
theorem okD_kl {n : Nat} {a : List W} (h : okD n (.kl a) = true) : False := by cases n <;> cases h
theorem okD_ktp {n : Nat} {a : List W} (h : okD n (.ktp a) = true) : False := by cases n <;> cases h
theorem dec_beq {a b : Int} : (a == b) = decide (a = b) := by rw [Bool.eq_iff_iff]; simp
theorem dec_S {a b : List Nat} : (S a == S b) = decide (a = b) := by rw [Bool.eq_iff_iff]; simp [S_inj_iff]
theorem b2_if (b : Bool) : (if b = true then (1 : Int) else 0) = b2n b := by cases b <;> rfl
mutual
theorem eqv_weq : ∀ (a b : W) (n m : Nat), okD n a = true → okD m b = true → PyData.eqv (pd a) (pd b) = weq a b
  | .non, b, n, m, h, h' => by cases b <;> first | (exact (okD_ref h').elim) | (exact (okD_ty h').elim) | (exact (okD_kl h').elim) | (exact (okD_ktp h').elim) | simp only [pd, PyData.eqv, weq]
  | .bl x, b, n, m, h, h' => by cases b <;> first | (exact (okD_ref h').elim) | (exact (okD_ty h').elim) | (exact (okD_kl h').elim) | (exact (okD_ktp h').elim) | simp only [pd, PyData.eqv, weq, dec_beq, b2_if]
  | .int i, b, n, m, h, h' => by cases b <;> first | (exact (okD_ref h').elim) | (exact (okD_ty h').elim) | (exact (okD_kl h').elim) | (exact (okD_ktp h').elim) | simp only [pd, PyData.eqv, weq, dec_beq, b2_if]
  | .str x, b, n, m, h, h' => by cases b <;> first | (exact (okD_ref h').elim) | (exact (okD_ty h').elim) | (exact (okD_kl h').elim) | (exact (okD_ktp h').elim) | simp only [pd, PyData.eqv, weq, dec_S]
  | .tup ws, b, n, m, h, h' => by
    cases b with
    | tup zs =>
      obtain ⟨k, e⟩ := okD_tupE h
      obtain ⟨k', e'⟩ := okD_tupE h'
      simp only [pd, PyData.eqv, weq]
      exact eqvL_weq ws zs k k' e e'
    | ref a => exact (okD_ref h').elim
    | ty a => exact (okD_ty h').elim
    | kl a => exact (okD_kl h').elim
    | ktp a => exact (okD_ktp h').elim
    | _ => simp only [pd, PyData.eqv, weq]
  | .ref a, b, n, m, h, h' => (okD_ref h).elim
  | .ty a, b, n, m, h, h' => (okD_ty h).elim
  | .kl a, b, n, m, h, h' => (okD_kl h).elim
  | .ktp a, b, n, m, h, h' => (okD_ktp h).elim
theorem eqvL_weq : ∀ (as bs : List W) (n m : Nat), as.all (okD n) = true → bs.all (okD m) = true → PyData.eqvAll (pdL as) (pdL bs) = weqL as bs
  | [], bs, n, m, h, h' => by cases bs <;> simp [pdL, PyData.eqvAll, weqL]
  | a :: as, bs, n, m, h, h' => by
    cases bs with
    | nil => simp only [pdL, PyData.eqvAll, weqL]
    | cons b bs =>
      rw [List.all_cons, Bool.and_eq_true] at h h'
      simp only [pdL, PyData.eqvAll, weqL]
      rw [eqv_weq a b n m h.1 h'.1, eqvL_weq as bs n m h.2 h'.2]
end
mutual
theorem dp_rep {K : Frag} {H : Hp} : ∀ (w : W) (v : V) (n : Nat), okD n w = true → Rep K H w v → Dp K H v (pd w)
  | .non, v, n, h, r => by rw [rep_non1 r]; simp only [pd]; constructor
  | .bl b, v, n, h, r => by rw [rep_bl r]; simp only [pd]; constructor
  | .int i, v, n, h, r => by rw [rep_int1 r]; simp only [pd]; constructor
  | .str l, v, n, h, r => by rw [rep_str1 r]; simp only [pd]; constructor
  | .tup ws, v, n, h, r => by
    obtain ⟨a, xs, rfl, s1, s2⟩ := rep_tup r
    obtain ⟨k, e⟩ := okD_tupE h
    simp only [pd]
    exact .tup s1 (dp_repL ws xs k e s2)
  | .ref a, v, n, h, r => (okD_ref h).elim
  | .ty a, v, n, h, r => (okD_ty h).elim
  | .kl a, v, n, h, r => (okD_kl h).elim
  | .ktp a, v, n, h, r => (okD_ktp h).elim
theorem dp_repL {K : Frag} {H : Hp} : ∀ (ws : List W) (vs : List V) (n : Nat), ws.all (okD n) = true → RepL K H ws vs → DpAll K H vs (pdL ws)
  | [], vs, n, h, r => by simp only [RepL] at r; subst r; simp only [pdL]; constructor
  | w :: ws, vs, n, h, r => by
    rw [List.all_cons, Bool.and_eq_true] at h
    simp only [RepL] at r
    obtain ⟨v, r', rfl, a, b⟩ := r
    simp only [pdL]
    exact .cons (dp_rep w v n h.1 a) (dp_repL ws r' n h.2 b)
end
theorem shaped_list {ws : List W} (h : ws.all (okD DP) = true) : SeqAt.shaped (.list (pdL ws)) = true := by
  have h' : okD (DP + 1) (.tup ws) = true := h
  obtain ⟨a, b⟩ := okD_pd _ _ h'
  unfold pd PyData.canLay0 at a
  unfold pd PyData.depth at b
  unfold SeqAt.shaped
  have e1 : (PyData.list (pdL ws)).canLay0 = true := by unfold PyData.canLay0; exact a
  have e2 : (PyData.list (pdL ws)).depth ≤ 64 := by
    unfold PyData.depth
    have : DP + 1 ≤ 64 := by decide
    omega
  rw [e1, Bool.true_and]
  exact decide_eq_true e2
theorem dec_str2 {a b : List Nat} : decide (V.str (S a) = V.str (S b)) = decide (a = b) := by
  rw [Bool.eq_iff_iff, decide_eq_true_iff, decide_eq_true_iff]
  exact ⟨fun e => S_inj (V.str.inj e), fun e => by rw [e]⟩
theorem dec_int2 {a b : Int} : decide (V.int a = V.int b) = decide (a = b) := by
  rw [Bool.eq_iff_iff, decide_eq_true_iff, decide_eq_true_iff]
  exact ⟨fun e => V.int.inj e, fun e => by rw [e]⟩
theorem shaped_tupE {ws : List W} (h : ws.all (okD DP) = true) : SeqAt.shaped (.tuple (pdL ws)) = true := by
  have q := shaped_list h
  unfold SeqAt.shaped PyData.canLay0 PyData.depth at q ⊢
  exact q
/-- == and its like, by what is answered -/
theorem eq_sim {r rD : L2.R2} {neg : Bool → Bool} (hS : ∀ x y H Q, scal x y = true → Q (.bl (neg (decide (x = y)))) H → r x y H Q)
    (hD : ∀ x y d e H Q, Dp X.K H x d → Dp X.K H y e → SeqAt.shaped d = true → SeqAt.shaped e = true → Q (.bl (neg (PyData.eqv d e))) H → rD x y H Q) :
    ∀ x y v u H G (Q3 : QV) (Q : VK), Rel X.K H G → Rep X.K H x v → Rep X.K H y u → eqA x y G (fun k => Q3 (.bl (neg k)) G) →
      (∀ v H' w G', Ext X.K H H' → Rel X.K H' G' → Rep X.K H' w v → Q3 w G' → Q v H') → r v u H Q ∨ rD v u H Q := by
  intro x y v u H G Q3 Q r rv ru h k
  have data : ∀ {x y : W} {v u : V}, Rep X.K H x v → Rep X.K H y u → okD DP x = true → okD DP y = true → Q3 (.bl (neg (weq x y))) G → rD v u H Q := fun {x y v u} rv ru a b q => by
    refine hD v u (pd x) (pd y) H Q (dp_rep x v _ a rv) (dp_rep y u _ b ru) (shaped_pd a) (shaped_pd b) ?_
    rw [eqv_weq x y _ _ a b]
    exact k _ H _ G .refl r rbl q
  cases x with
  | ref a =>
    cases y with
    | ref b =>
      cases e1 : G a with
      | none => simp only [eqA, e1] at h
      | some o =>
        cases o with
        | lst xs =>
          cases e2 : G b with
          | none => simp only [eqA, e1, e2] at h
          | some o' =>
            cases o' with
            | lst ys =>
              simp only [eqA, e1, e2] at h
              obtain ⟨h1, h2, h3⟩ := h
              obtain ⟨vs, v1, v2⟩ := r.lst e1
              obtain ⟨us, u1, u2⟩ := r.lst e2
              rw [rep_ref1 rv, rep_ref1 ru]
              refine .inr (hD _ _ (.list (pdL xs)) (.list (pdL ys)) H Q (.lst (.inl (.inl v1)) (dp_repL xs vs _ h1 v2)) (.lst (.inl (.inl u1)) (dp_repL ys us _ h2 u2)) (shaped_list h1) (shaped_list h2) ?_)
              have e : PyData.eqv (.list (pdL xs)) (.list (pdL ys)) = weqL xs ys := by
                simp only [PyData.eqv]
                exact eqvL_weq xs ys _ _ h1 h2
              rw [e]
              exact k _ H _ G .refl r rbl h3
            | _ => simp only [eqA, e1, e2] at h
        | _ => simp only [eqA, e1] at h
    | _ => exact h.elim
  | ktp a =>
    cases y with
    | ktp b =>
      obtain ⟨h1, h2, h3⟩ := h
      obtain ⟨p, vs, rfl, v1, v2⟩ := rep_ktp rv
      obtain ⟨q, us, rfl, u1, u2⟩ := rep_ktp ru
      refine .inr (hD _ _ (.tuple (pdL a)) (.tuple (pdL b)) H Q (.tup v1 (dp_repL a vs _ h1 v2)) (.tup u1 (dp_repL b us _ h2 u2)) (shaped_tupE h1) (shaped_tupE h2) ?_)
      have e : PyData.eqv (.tuple (pdL a)) (.tuple (pdL b)) = weqL a b := by
        simp only [PyData.eqv]
        exact eqvL_weq a b _ _ h1 h2
      rw [e]
      exact k _ H _ G .refl r rbl h3
    | _ => exact h.elim
  | ty a => exact h.elim
  | int i =>
    cases y with
    | int j =>
      rw [rep_int1 rv, rep_int1 ru]
      exact .inl (hS _ _ H Q rfl (by rw [dec_int2]; exact k _ H _ G .refl r rbl h))
    | ref b => exact h.elim
    | ty b => exact h.elim
    | _ => exact .inr (data rv ru rfl h.1 h.2)
  | str l =>
    cases y with
    | str m =>
      rw [rep_str1 rv, rep_str1 ru]
      exact .inl (hS _ _ H Q rfl (by rw [dec_str2]; exact k _ H _ G .refl r rbl h))
    | ref b => exact h.elim
    | ty b => exact h.elim
    | _ => exact .inr (data rv ru h.1 h.2.1 h.2.2)
  | _ =>
    cases y with
    | ref b => exact h.elim
    | ty b => exact h.elim
    | _ => exact .inr (data rv ru h.1 h.2.1 h.2.2)
theorem o_eq (hu : X.A.units + 64 < cLine) : OpR3 X (compareOp .Eq) rEq :=
  ⟨_, op_eq.or (op_eqD hu), eq_sim (neg := fun k => k) (fun x y H Q a q => ⟨a, q⟩) fun x y d e H Q a b c z q => ⟨d, e, a, b, c, z, q⟩⟩
theorem o_ne (hu : X.A.units + 64 < cLine) : OpR3 X (compareOp .NotEq) rNe :=
  ⟨_, op_ne.or (op_neD hu), eq_sim (neg := fun k => !k) (fun x y H Q a q => ⟨a, q⟩) fun x y d e H Q a b c z q => ⟨d, e, a, b, c, z, q⟩⟩
/-! ### is -/
theorem isN_of {K : Frag} {H : Hp} {w : W} {v : V} (r : Rep K H w v) : decide (v = .non) = isN w := by
  cases w with
  | non => rw [rep_non1 r]; rfl
  | bl b => rw [rep_bl r]; exact decide_eq_false (fun z => nomatch z)
  | int b => rw [rep_int1 r]; exact decide_eq_false (fun z => nomatch z)
  | str b => rw [rep_str1 r]; exact decide_eq_false (fun z => nomatch z)
  | ref b => rw [rep_ref1 r]; exact decide_eq_false (fun z => nomatch z)
  | ty b => rw [rep_ty1 r]; exact decide_eq_false (fun z => nomatch z)
  | tup ws =>
    obtain ⟨a, xs, rfl, _, _⟩ := rep_tup r
    exact decide_eq_false (fun z => nomatch z)
  | kl ws =>
    simp only [Rep] at r
    obtain ⟨a, xs, rfl, _, _⟩ := r
    exact decide_eq_false (fun z => nomatch z)
  | ktp ws =>
    obtain ⟨a, xs, rfl, _, _⟩ := rep_ktp r
    exact decide_eq_false (fun z => nomatch z)
theorem o_is : OpR3 X (compareOp .Is) rIs := by
  refine ⟨_, op_isN, fun x y v u H G Q3 Q r rv ru h k => ?_⟩
  cases y with
  | non => exact ⟨rep_non1 ru, by rw [isN_of rv]; exact k _ H _ G .refl r rbl h⟩
  | _ => exact h.elim
theorem o_isnot : OpR3 X (compareOp .IsNot) rIsNot := by
  refine ⟨_, op_notN, fun x y v u H G Q3 Q r rv ru h k => ?_⟩
  cases y with
  | non => exact ⟨rep_non1 ru, by rw [isN_of rv]; exact k _ H _ G .refl r rbl h⟩
  | _ => exact h.elim
/-! ### in -/
theorem eqV_weq {K : Frag} {H : Hp} {a b : W} {v u : V} (ra : Rep K H a v) (rb : Rep K H b u) (fa : flatW a = true) (fb : flatW b = true) : eqV v u = weq a b := by
  cases a with
  | non =>
    rw [rep_non1 ra]
    cases b with
    | non => rw [rep_non1 rb]; rfl
    | bl b => rw [rep_bl rb]; rfl
    | int b => rw [rep_int1 rb]; rfl
    | str b => rw [rep_str1 rb]; rfl
    | _ => cases fb
  | bl a =>
    rw [rep_bl ra]
    cases b with
    | non => rw [rep_non1 rb]; rfl
    | bl b => rw [rep_bl rb]; rfl
    | int b => rw [rep_int1 rb]; simp only [eqV, weq, dec_beq, b2_if]
    | str b => rw [rep_str1 rb]; rfl
    | _ => cases fb
  | int a =>
    rw [rep_int1 ra]
    cases b with
    | non => rw [rep_non1 rb]; rfl
    | bl b => rw [rep_bl rb]; simp only [eqV, weq, dec_beq, b2_if]
    | int b => rw [rep_int1 rb]; simp only [eqV, weq, dec_beq]
    | str b => rw [rep_str1 rb]; rfl
    | _ => cases fb
  | str a =>
    rw [rep_str1 ra]
    cases b with
    | non => rw [rep_non1 rb]; rfl
    | bl b => rw [rep_bl rb]; rfl
    | int b => rw [rep_int1 rb]; rfl
    | str b => rw [rep_str1 rb]; simp only [eqV, weq, dec_S]
    | _ => cases fb
  | _ => cases fa
theorem flat_of {K : Frag} {H : Hp} {a : W} {v : V} (r : Rep K H a v) (f : flatW a = true) : flatV v = true := by
  cases a with
  | non => rw [rep_non1 r]; rfl
  | bl b => rw [rep_bl r]; rfl
  | int b => rw [rep_int1 r]; rfl
  | str b => rw [rep_str1 r]; rfl
  | _ => cases f
theorem flat_all {K : Frag} {H : Hp} : ∀ {ws : List W} {vs : List V}, RepL K H ws vs → ws.all flatW = true → vs.all flatV = true
  | [], _, r, _ => by simp only [RepL] at r; subst r; rfl
  | w :: ws, _, r, f => by
    simp only [RepL] at r
    obtain ⟨v, r', rfl, a, b⟩ := r
    rw [List.all_cons, Bool.and_eq_true] at f ⊢
    exact ⟨flat_of a f.1, flat_all b f.2⟩
theorem any_flat {K : Frag} {H : Hp} {x : W} {v : V} (rx : Rep K H x v) (fx : flatW x = true) : ∀ {ws : List W} {vs : List V}, RepL K H ws vs → ws.all flatW = true → inV v vs = ws.any fun w => weq w x
  | [], _, r, _ => by simp only [RepL] at r; subst r; rfl
  | w :: ws, _, r, f => by
    simp only [RepL] at r
    obtain ⟨u, r', rfl, a, b⟩ := r
    rw [List.all_cons, Bool.and_eq_true] at f
    have ih := any_flat rx fx b f.2
    unfold inV at ih ⊢
    rw [List.any_cons, List.any_cons, eqV_weq a rx f.1 fx, ih]
theorem any_pd {x : W} (hx : okD DP x = true) : ∀ (ws : List W), ws.all (okD DP) = true → ((pdL ws).any fun z => PyData.eqv z (pd x)) = ws.any fun w => weq w x
  | [], _ => by simp only [pdL]; rfl
  | w :: ws, f => by
    rw [List.all_cons, Bool.and_eq_true] at f
    simp only [pdL]
    rw [List.any_cons, List.any_cons, eqv_weq w x _ _ f.1 hx, any_pd hx ws f.2]
theorem shaped_tup {ws : List W} (h : ws.all (okD DP) = true) : SeqAt.shaped (.tuple (pdL ws)) = true := by
  have q := shaped_list h
  unfold SeqAt.shaped PyData.canLay0 PyData.depth at q ⊢
  exact q
def rTin (K : Frag) (neg : Bool → Bool) : L2.R2 := fun x y H Q => ∃ d ds, Dp K H x d ∧ Dp K H y (.tuple ds) ∧ SeqAt.shaped d = true ∧ SeqAt.shaped (.tuple ds) = true ∧ Q (.bl (neg (ds.any fun z => PyData.eqv z d))) H
theorem op_tin (hu : X.A.units + 65 < cLine) : OpR X (compareOp .In) (rTin X.K fun k => k) := by
  intro pins s σ H x y v u Q I rx ry h
  obtain ⟨d, ds, h1, h2, sd, se, q⟩ := h
  obtain ⟨_, r1⟩ := Dp.reads I d x v h1 rx
  obtain ⟨_, r2⟩ := Dp.reads I (.tuple ds) y u h2 ry
  exact SeqAt.in_tuple_reads r2 r1 (SeqAt.canLay_of_shaped se) (SeqAt.canLay_of_shaped sd) (room_in_shaped sd hu) ⟨.bl _, H, I, rfl, q⟩
theorem op_tnin (hu : X.A.units + 65 < cLine) : OpR X (compareOp .NotIn) (rTin X.K fun k => !k) := by
  intro pins s σ H x y v u Q I rx ry h
  obtain ⟨d, ds, h1, h2, sd, se, q⟩ := h
  obtain ⟨_, r1⟩ := Dp.reads I d x v h1 rx
  obtain ⟨_, r2⟩ := Dp.reads I (.tuple ds) y u h2 ry
  exact SeqAt.notIn_tuple_reads r2 r1 (SeqAt.canLay_of_shaped se) (SeqAt.canLay_of_shaped sd) (room_in_shaped sd hu) ⟨.bl _, H, I, rfl, q⟩
theorem in_sim {r0 r1 r2 r3 : L2.R2} {neg : Bool → Bool} (h0 : ∀ (c : Nat) (z : Str) H Q, Q (.bl (neg (decide (c ∈ z.cps.toList)))) H → r0 (.str ⟨#[c]⟩) (.str z) H Q)
    (h1 : ∀ x p xs H Q, SqT X.K H p xs → flatV x = true → xs.all flatV = true → Q (.bl (neg (inV x xs))) H → r1 x (.ref p) H Q)
    (h2 : ∀ x y d ds H Q, Dp X.K H x d → Dp X.K H y (.list ds) → SeqAt.shaped d = true → SeqAt.shaped (.list ds) = true → Q (.bl (neg (ds.any fun z => PyData.eqv z d))) H → r2 x y H Q)
    (h3 : ∀ x y d ds H Q, Dp X.K H x d → Dp X.K H y (.tuple ds) → SeqAt.shaped d = true → SeqAt.shaped (.tuple ds) = true → Q (.bl (neg (ds.any fun z => PyData.eqv z d))) H → r3 x y H Q) :
    ∀ x y v u H G (Q3 : QV) (Q : VK), Rel X.K H G → Rep X.K H x v → Rep X.K H y u → rInA x y G (fun k => Q3 (.bl (neg k)) G) →
      (∀ v H' w G', Ext X.K H H' → Rel X.K H' G' → Rep X.K H' w v → Q3 w G' → Q v H') → r0 v u H Q ∨ r1 v u H Q ∨ r2 v u H Q ∨ r3 v u H Q := by
  intro x y v u H G Q3 Q r rv ru h k
  cases y with
  | str z =>
    simp only [rInA] at h
    split at h
    · rw [rep_str1 rv, rep_str1 ru]
      refine .inl (h0 _ (S z) H Q ?_)
      rw [S_toList]
      exact k _ H _ G .refl r rbl h
    · exact h.elim
  | tup ws =>
    obtain ⟨p, xs, rfl, s1, s2⟩ := rep_tup ru
    obtain ⟨a, q⟩ := h
    rcases a with ⟨a, b⟩ | ⟨a, b⟩
    · refine .inr (.inl (h1 v p xs H Q s1 (flat_of rv a) (flat_all s2 b) ?_))
      rw [any_flat rv a s2 b]
      exact k _ H _ G .refl r rbl q
    · refine .inr (.inr (.inr (h3 v _ (pd x) (pdL ws) H Q (dp_rep x v _ a rv) (.tup s1 (dp_repL ws xs _ b s2)) (shaped_pd a) (shaped_tup b) ?_)))
      rw [any_pd a ws b]
      exact k _ H _ G .refl r rbl q
  | ktp ws =>
    obtain ⟨p, xs, rfl, s1, s2⟩ := rep_ktp ru
    obtain ⟨⟨a, b⟩, q⟩ := h
    refine .inr (.inl (h1 v p xs H Q s1 (flat_of rv a) (flat_all s2 b) ?_))
    rw [any_flat rv a s2 b]
    exact k _ H _ G .refl r rbl q
  | ref a =>
    cases e : G a with
    | none => simp only [rInA, e] at h
    | some o =>
      cases o with
      | lst ws =>
        simp only [rInA, e] at h
        obtain ⟨a, b, q⟩ := h
        obtain ⟨xs, s1, s2⟩ := r.lst e
        rw [rep_ref1 ru]
        refine .inr (.inr (.inl (h2 v _ (pd x) (pdL ws) H Q (dp_rep x v _ a rv) (.lst (.inl (.inl s1)) (dp_repL ws xs _ b s2)) (shaped_pd a) (shaped_list b) ?_)))
        rw [any_pd a ws b]
        exact k _ H _ G .refl r rbl q
      | _ => simp only [rInA, e] at h
  | _ => exact h.elim
theorem o_in (hu : X.A.units + 65 < cLine) : OpR3 X (compareOp .In) rIn :=
  ⟨_, op_in_sign.or (op_in_seq.or ((op_inD hu).or (op_tin hu))), in_sim (neg := fun k => k) (fun c z H Q q => ⟨c, z, rfl, rfl, q⟩) (fun x p xs H Q a b c q => ⟨p, xs, rfl, .inr a, b, c, q⟩)
    (fun x y d ds H Q a b c z q => ⟨d, ds, a, b, c, z, q⟩) fun x y d ds H Q a b c z q => ⟨d, ds, a, b, c, z, q⟩⟩
theorem o_notin (hu : X.A.units + 65 < cLine) : OpR3 X (compareOp .NotIn) rNotIn :=
  ⟨_, op_notIn_sign.or (op_notIn_seq.or ((op_notInD hu).or (op_tnin hu))), in_sim (neg := fun k => !k) (fun c z H Q q => ⟨c, z, rfl, rfl, q⟩) (fun x p xs H Q a b c q => ⟨p, xs, rfl, .inr a, b, c, q⟩)
    (fun x y d ds H Q a b c z q => ⟨d, ds, a, b, c, z, q⟩) fun x y d ds H Q a b c z q => ⟨d, ds, a, b, c, z, q⟩⟩
/-! ### subscripts, slices -/
theorem ixn_eq (n : Nat) (i : Int) : ixN n i = ixn n i := by
  unfold ixN ixn
  by_cases h : 0 ≤ i
  · rw [if_pos h, if_pos h]
    by_cases h2 : i < n
    · rw [if_pos h2, if_pos (by omega)]
    · rw [if_neg h2, if_neg (by omega)]
  · rw [if_neg h, if_neg h]
    by_cases h2 : -(n : Int) ≤ i
    · rw [if_pos h2, if_pos (by omega)]
      congr 1
      omega
    · rw [if_neg h2, if_neg (by omega)]
theorem atI_eq {α : Type} (xs : List α) (i : Int) : atI xs i = at_ xs i := by
  unfold atI at_
  rw [ixn_eq]
  cases ixn xs.length i <;> rfl
theorem at_rep {K : Frag} {H : Hp} {ws : List W} {xs : List V} {i : Int} {w : W} (r : RepL K H ws xs) (e : at_ ws i = some w) : ∃ v, atI xs i = some v ∧ Rep K H w v := by
  rw [atI_eq]
  unfold at_ at e ⊢
  rw [← r.length]
  cases q : ixn ws.length i with
  | none => rw [q] at e; cases e
  | some j =>
    rw [q] at e
    exact r.get e
theorem ix_at {K : Frag} {H : Hp} {G : Gh} {ws : List W} {xs : List V} {i : Int} {Q3 : QV} (rl : RepL K H ws xs) (h : match at_ ws i with | some w => Q3 w G | none => False) : ∃ w v, at_ ws i = some w ∧ atI xs i = some v ∧ Rep K H w v ∧ Q3 w G := by
  cases q : at_ ws i with
  | none => rw [q] at h; exact h.elim
  | some w =>
    rw [q] at h
    obtain ⟨v, e1, e2⟩ := at_rep rl q
    exact ⟨w, v, rfl, e1, e2, h⟩
theorem x_ix : IxR3 X rIx := by
  refine ⟨_, ix_seq, fun x y v u H G Q3 Q r rv ru h k => ?_⟩
  cases x with
  | str z =>
    cases y with
    | int i =>
      obtain ⟨hz, h⟩ := h
      rw [rep_str1 rv, rep_int1 ru]
      cases q : at_ z i with
      | none => rw [q] at h; exact h.elim
      | some c =>
        rw [q] at h
        exact .inr (.inr ⟨S z, i, c, rfl, rfl, by rw [S_length, sz_eq]; exact hz, by rw [S_toList, atI_eq]; exact q, k _ H (.str [c]) G .refl r rstr h⟩)
    | _ => exact h.elim
  | tup ws =>
    cases y with
    | int i =>
      obtain ⟨p, xs, rfl, s1, s2⟩ := rep_tup rv
      rw [rep_int1 ru]
      obtain ⟨w, v, e1, e2, e3, q⟩ := ix_at s2 h
      exact .inr (.inl ⟨p, xs, i, v, rfl, rfl, s1, e2, k v H w G .refl r e3 q⟩)
    | _ => exact h.elim
  | ktp ws =>
    cases y with
    | int i =>
      obtain ⟨p, xs, rfl, s1, s2⟩ := rep_ktp rv
      rw [rep_int1 ru]
      obtain ⟨w, v, e1, e2, e3, q⟩ := ix_at s2 h
      exact .inr (.inl ⟨p, xs, i, v, rfl, rfl, s1, e2, k v H w G .refl r e3 q⟩)
    | _ => exact h.elim
  | ref a =>
    have go : ∀ ws, (G a = some (.lst ws) ∨ G a = some (.rdl ws)) → (match (generalizing := false) y with | .int i => (match at_ ws i with | some w => Q3 w G | none => False) | _ => False) → L2.rIx X.K v u H Q := fun ws e h => by
      cases y with
      | int i =>
        obtain ⟨xs, s1, s2⟩ := r.seq e
        rw [rep_ref1 rv, rep_int1 ru]
        obtain ⟨w, v, e1, e2, e3, q⟩ := ix_at s2 h
        exact .inl ⟨a, xs, i, v, rfl, rfl, s1, e2, k v H w G .refl r e3 q⟩
      | _ => exact h.elim
    cases e : G a with
    | none => simp only [L3.rIx, e] at h
    | some o =>
      cases o with
      | lst ws => simp only [L3.rIx, e] at h; exact go ws (.inl e) h
      | rdl ws => simp only [L3.rIx, e] at h; exact go ws (.inr e) h
      | _ => simp only [L3.rIx, e] at h
  | _ => exact h.elim
theorem SlR.or {r r' : V → Option Int → Option Int → Hp → VK → Prop} (a : SlR X r) (b : SlR X r') : SlR X fun x lo hi H Q => r x lo hi H Q ∨ r' x lo hi H Q := by
  intro pins s σ H x v vl vu lo hi sl Q I rx hs pl pu h
  rcases h with h | h
  · exact a pins s σ H x v vl vu lo hi sl Q I rx hs pl pu h
  · exact b pins s σ H x v vl vu lo hi sl Q I rx hs pl pu h
theorem cut_whole {ws : List W} {lo hi : Option Int} (h : lo_ ws.length lo = 0 ∧ hi_ ws.length hi = ws.length) : cut ws lo hi = ws := by
  unfold cut
  rw [h.1, h.2, List.drop_zero, Nat.sub_zero, List.take_length]
theorem pe3_sl {e : Expr} {lo hi : Option Expr} {te : TE} {tl th : TO} {p2 pos : Pos} (he : PE3 X e te) (hl : PO3 X lo tl) (hh : PO3 X hi th) : PE3 X (.Subscript e (.Slice lo hi none p2) pos) (eSl te tl th) := fun E tk => by
  obtain ⟨t1, p1, q1⟩ := he E tk
  obtain ⟨t2, p2, q2⟩ := hl E tk
  obtain ⟨t3, p3, q3⟩ := hh E tk
  refine ⟨_, pe_slice (SlR.or sl_str (SlR.or sl_tupA sl_list)) p1 p2 p3, fun σ H γ G Q3 Q hs hr h3 k => ?_⟩
  refine q1 σ H γ G _ _ hs hr h3 fun v H1 w G1 x1 r1 rv h3 => ?_
  refine q2 σ H1 γ G1 _ _ (hs.ext x1) r1 h3 fun i H2 G2 x2 r2 h3 => ?_
  refine q3 σ H2 γ G2 _ _ (hs.ext (x1.trans x2)) r2 h3 fun j H3 G3 x3 r3 h3 => ?_
  have rv := rv.ext (x2.trans x3)
  have y := (x1.trans x2).trans x3
  cases w with
  | str z =>
    rw [rep_str1 rv]
    refine .inl ⟨S z, rfl, by rw [S_length, sz_eq]; exact h3.1, ?_⟩
    rw [cutS_eq]
    exact k _ H3 _ G3 y r3 rstr h3.2
  | tup ws =>
    obtain ⟨p, xs, rfl, s1, s2⟩ := rep_tup rv
    refine .inr (.inl ⟨p, xs, rfl, s1, fun e => ?_, fun _ t ht => ?_⟩)
    · rw [lo_eq, hi_eq, ← s2.length] at e
      have h4 : Q3 (.tup (cut ws i j)) G3 := h3
      rw [cut_whole e] at h4
      exact k _ H3 _ G3 y r3 rv h4
    · rw [cut_eq]
      exact k _ _ _ G3 (y.trans (.new ht)) (r3.hid ht) (rep_new_tup ht (s2.cut i j)) h3
  | ref a =>
    cases e : G3 a with
    | none => simp only [rSl, e] at h3
    | some o =>
      cases o with
      | lst ws =>
        simp only [rSl, e] at h3
        obtain ⟨xs, s1, s2⟩ := r3.lst e
        rw [rep_ref1 rv]
        refine .inr (.inr ⟨a, xs, rfl, .inl (.inl s1), fun p hp => ?_⟩)
        rw [cut_eq]
        exact k _ _ _ _ (y.trans (.new hp)) (r3.new (o := .lst (cut ws i j)) hp ⟨_, upd_same, (s2.cut i j).ext (.new hp)⟩) rref (h3 p (r3.free hp))
      | _ => simp only [rSl, e] at h3
  | _ => exact h3.elim
end
end L3

end
section
/-! L3SndE: built-ins, methods, dicts, the rule for a def. -/
namespace L3
open PySem PySem.Spec PyProof.Rows L2
section
variable {X : Cx}
theorem KV_len {K : Frag} {H : Hp} {ws : List (W × W)} {ks : List (Key × V)} (h : RepKV keyW K H ws ks) : ws.length = ks.length := h.length
theorem b_len : CallR3 X (.builtin "len") bLen := by
  have cl : CallR X (.builtin "len") (fun xs H Q => (∃ x n, xs = [x] ∧ LenV X.K x H n ∧ Q (.int n) H) ∨ (∃ d kvs, xs = [.ref d] ∧ H d = some (.dK kvs) ∧ Q (.int kvs.length) H) ∨ rLenT xs H Q) := by
    intro pins s σ H xs us Q I r h
    rcases h with h | h | h
    · exact call_len pins s σ H xs us Q I r h
    · exact call_lenD pins s σ H xs us Q I r h
    · exact call_len_dT pins s σ H xs us Q I r h
  refine ⟨_, cl, fun ws vs H G Q3 Q r rv h k => ?_⟩
  simp only [bLen] at h
  split at h
  · obtain ⟨v, rfl, e⟩ := repl1 rv
    rw [rep_str1 e]
    refine .inl ⟨_, _, rfl, ⟨by rw [S_length, sz_eq]; exact h.1, rfl⟩, ?_⟩
    rw [S_length]
    exact k _ H _ G .refl r rint h.2
  · obtain ⟨v, rfl, e⟩ := repl1 rv
    obtain ⟨p, xs, rfl, s1, s2⟩ := rep_tup e
    refine .inl ⟨_, xs.length, rfl, .inr ⟨xs, s1, rfl⟩, ?_⟩
    rw [← s2.length]
    exact k _ H _ G .refl r rint h
  · obtain ⟨v, rfl, e⟩ := repl1 rv
    obtain ⟨p, xs, rfl, s1, s2⟩ := rep_ktp e
    refine .inl ⟨_, xs.length, rfl, .inr ⟨xs, s1, rfl⟩, ?_⟩
    rw [← s2.length]
    exact k _ H _ G .refl r rint h
  · rename_i a
    obtain ⟨v, rfl, e⟩ := repl1 rv
    rw [rep_ref1 e]
    have seq : ∀ t, (G a = some (.lst t) ∨ G a = some (.rdl t)) → Q3 (.int t.length) G → ((∃ x n, [V.ref a] = [x] ∧ LenV X.K x H n ∧ Q (.int n) H) ∨ (∃ d kvs, [V.ref a] = [.ref d] ∧ H d = some (.dK kvs) ∧ Q (.int kvs.length) H) ∨ rLenT [V.ref a] H Q) := fun t e h => by
      obtain ⟨xs, s1, s2⟩ := r.seq e
      refine .inl ⟨_, xs.length, rfl, .inl ⟨xs, s1, rfl⟩, ?_⟩
      rw [← s2.length]
      exact k _ H _ G .refl r rint h
    split at h
    · rename_i t eq; exact seq t (.inl eq) h
    · rename_i t eq; exact seq t (.inr eq) h
    · rename_i t eq
      obtain ⟨ks, s1, s2⟩ := r a _ eq
      refine .inr (.inl ⟨a, ks, rfl, s1, ?_⟩)
      rw [← s2.length]
      exact k _ H _ G .refl r rint h
    · rename_i t eq
      obtain ⟨ks, s1, s2⟩ := r a _ eq
      refine .inr (.inr ⟨a, ks, rfl, s1, ?_⟩)
      rw [← s2.length]
      exact k _ H _ G .refl r rint h
    · exact h.elim
  · exact h.elim
theorem b_abs : CallR3 X (.builtin "abs") bAbs := by
  refine ⟨_, call_abs, fun ws vs H G Q3 Q r rv h k => ?_⟩
  simp only [bAbs] at h
  split at h
  · rename_i i
    obtain ⟨v, rfl, e⟩ := repl1 rv
    rw [rep_int1 e]
    refine ⟨i, rfl, ?_⟩
    have z : (if i < 0 then -i else i) = (i.natAbs : Int) := by split <;> omega
    rw [z]
    exact k _ H _ G .refl r rint h
  · exact h.elim
theorem int_S3 {a : List Nat} (h : a.all isDg = true) (hne : a ≠ []) (hl : a.length ≤ 4300) : intText? (S a) = some ((digVal a : Nat) : Int) :=
  intText_digits (x := S a) (fun c hc => by
    have z : (decide (48 ≤ c) && decide (c ≤ 57)) = true := List.all_eq_true.mp h c hc
    rw [Bool.and_eq_true, decide_eq_true_eq, decide_eq_true_eq] at z
    exact z) hne (by rw [S_length]; exact hl)
theorem digVal_eq (s : List Nat) : digVal s = NumText.digitsVal s := rfl
theorem b_int : CallR3 X (.type "int") bInt := by
  have cl : CallR X (.type "int") (fun xs H Q => ((∃ i, xs = [.int i] ∧ Q (.int i) H) ∨ (∃ b : Bool, xs = [.bl b] ∧ Q (.int (if b then 1 else 0)) H)) ∨ ∃ a n, xs = [.str a] ∧ PySem.intText? a = some n ∧ a.length ≤ 640 ∧ Q (.int n) H) := by
    intro pins s σ H xs us Q I r h
    rcases h with h | h
    · exact call_int1 pins s σ H xs us Q I r h
    · exact call_int_str pins s σ H xs us Q I r h
  refine ⟨_, cl, fun ws vs H G Q3 Q r rv h k => ?_⟩
  simp only [bInt] at h
  split at h
  · obtain ⟨v, rfl, e⟩ := repl1 rv
    rw [rep_int1 e]
    exact .inl (.inl ⟨_, rfl, k _ H _ G .refl r rint h⟩)
  · obtain ⟨v, rfl, e⟩ := repl1 rv
    rw [rep_bl e]
    refine .inl (.inr ⟨_, rfl, ?_⟩)
    rw [b2_if]
    exact k _ H _ G .refl r rint h
  · obtain ⟨v, rfl, e⟩ := repl1 rv
    rename_i s
    rw [rep_str1 e]
    obtain ⟨h1, h2, h3, h⟩ := h
    exact .inr ⟨_, _, rfl, int_S3 h2 h1 (by omega), by rw [S_length]; exact h3, k _ H _ G .refl r rint h⟩
  · exact h.elim
theorem b_min (hc : X.calm = true) : CallR3 X (.builtin "min") bMin := by
  refine ⟨_, call_min2 hc, fun ws vs H G Q3 Q r rv h k => ?_⟩
  simp only [bMin] at h
  split at h
  · rename_i i j
    obtain ⟨v, u, rfl, e, e'⟩ := repl2 rv
    rw [rep_int1 e, rep_int1 e']
    refine ⟨i, j, rfl, ?_⟩
    have z : (if j < i then j else i) = min i j := by split <;> omega
    rw [z]
    exact k _ H _ G .refl r rint h
  · exact h.elim
theorem b_max (hc : X.calm = true) : CallR3 X (.builtin "max") bMax := by
  refine ⟨_, call_max2 hc, fun ws vs H G Q3 Q r rv h k => ?_⟩
  simp only [bMax] at h
  split at h
  · rename_i i j
    obtain ⟨v, u, rfl, e, e'⟩ := repl2 rv
    rw [rep_int1 e, rep_int1 e']
    refine ⟨i, j, rfl, ?_⟩
    have z : (if j > i then j else i) = max i j := by split <;> omega
    rw [z]
    exact k _ H _ G .refl r rint h
  · exact h.elim
theorem ints_of : ∀ {ws : List W} {ns : List Int}, intsW ws = some ns → ws = ns.map W.int
  | [], ns, h => by cases h; rfl
  | .int i :: r, ns, h => by
    unfold intsW at h
    cases q : intsW r with
    | none => rw [q] at h; cases h
    | some m =>
      rw [q] at h
      cases h
      rw [ints_of q]; rfl
  | .non :: _, _, h => by cases h
  | .bl _ :: _, _, h => by cases h
  | .str _ :: _, _, h => by cases h
  | .ref _ :: _, _, h => by cases h
  | .ty _ :: _, _, h => by cases h
  | .tup _ :: _, _, h => by cases h
theorem strs_of : ∀ {ws : List W} {ns : List (List Nat)}, strsW ws = some ns → ws = ns.map W.str
  | [], ns, h => by cases h; rfl
  | .str i :: r, ns, h => by
    unfold strsW at h
    cases q : strsW r with
    | none => rw [q] at h; cases h
    | some m =>
      rw [q] at h
      cases h
      rw [strs_of q]; rfl
  | .non :: _, _, h => by cases h
  | .bl _ :: _, _, h => by cases h
  | .int _ :: _, _, h => by cases h
  | .ref _ :: _, _, h => by cases h
  | .ty _ :: _, _, h => by cases h
  | .tup _ :: _, _, h => by cases h
theorem b_sum (hc : X.calm = true) : CallR3 X (.builtin "sum") bSum := by
  refine ⟨_, cr_sum hc, fun ws vs H G Q3 Q r rv h k => ?_⟩
  simp only [bSum] at h
  split at h
  · obtain ⟨v, rfl, e⟩ := repl1 rv
    rw [rep_ref1 e]
    split at h
    · rename_i t eq
      cases q : intsW t with
      | none => rw [q] at h; exact h.elim
      | some ns =>
        rw [q] at h
        obtain ⟨xs, s1, s2⟩ := r.lst eq
        rw [ints_of q] at s2
        rw [RepL.ints s2] at s1
        exact ⟨_, ns, rfl, .inl (.inl s1), k _ H _ G .refl r rint h⟩
    · exact h.elim
  · exact h.elim
theorem kitB_all : ∀ a ∈ ("NoneType" :: tyN), ∀ b ∈ tyN, kitB a b = some (isSub a b) := by decide +kernel
theorem cls_ty {K : Frag} {H : Hp} {G : Gh} {x : W} {v : V} {c : String} (r : Rel K H G) (rv : Rep K H x v) (h : clsN x G = some c) : TyX K H v (.type c) ∧ c ∈ ("NoneType" :: tyN) := by
  cases x with
  | non => cases h; rw [rep_non1 rv]; exact ⟨.base .non, by decide⟩
  | bl b => cases h; rw [rep_bl rv]; exact ⟨.base (.bl b), by decide⟩
  | int b => cases h; rw [rep_int1 rv]; exact ⟨.base (.int b), by decide⟩
  | str b => cases h; rw [rep_str1 rv]; exact ⟨.base (.str _), by decide⟩
  | tup ws =>
    cases h
    obtain ⟨p, xs, rfl, s1, s2⟩ := rep_tup rv
    refine ⟨?_, by decide⟩
    rcases s1 with (s1 | ⟨o, s1⟩) | ⟨o, its, n, s1, s3, s4, s5⟩
    · exact .base (.tup s1)
    · exact .fTuple s1
    · exact .kTuple s1 s3
  | ktp ws =>
    cases h
    obtain ⟨p, xs, rfl, s1, s2⟩ := rep_ktp0 rv
    refine ⟨?_, by decide⟩
    rcases s1 with (s1 | ⟨o, s1⟩) | ⟨o, its, n, s1, s3, s4, s5⟩
    · cases s1
    · cases s1
    · exact .kTuple s1 s3
  | ref a =>
    rw [rep_ref1 rv]
    cases e : G a with
    | none => simp only [clsN, e] at h; cases h
    | some o =>
      cases o with
      | lst t => simp only [clsN, e] at h; cases h; obtain ⟨xs, s1, _⟩ := r a _ e; exact ⟨.base (.lst s1), by decide⟩
      | rdl t => simp only [clsN, e] at h; cases h; obtain ⟨o, xs, s1, _⟩ := r a _ e; exact ⟨.base (.frz s1), by decide⟩
      | dct t => simp only [clsN, e] at h; cases h; obtain ⟨xs, s1, _⟩ := r a _ e; exact ⟨.base (.dK s1), by decide⟩
      | dtt t => simp only [clsN, e] at h; cases h; obtain ⟨xs, s1, _⟩ := r a _ e; exact ⟨.base (.dT s1), by decide⟩
      | ins C ns t => simp only [clsN, e] at h; cases h
      | exo C ns t => simp only [clsN, e] at h; cases h
      | rdc t => simp only [clsN, e] at h; cases h; obtain ⟨o, xs, s1, _⟩ := r a _ e; exact ⟨.fDict s1, by decide⟩
      | rdt t => simp only [clsN, e] at h; cases h
  | ty n => cases h
  | kl n => cases h
theorem b_isi : CallR3 X (.builtin "isinstance") bIsi := by
  refine ⟨_, call_isi, fun ws vs H G Q3 Q r rv h k => ?_⟩
  simp only [bIsi] at h
  split at h
  · rename_i x n
    obtain ⟨v, u, rfl, e, e'⟩ := repl2 rv
    rw [rep_ty1 e']
    cases q : clsN x G with
    | none => rw [q] at h; exact h.elim
    | some c =>
      rw [q] at h
      obtain ⟨t1, t2⟩ := cls_ty r e q
      exact ⟨v, .ty n, .type c, .type n, _, rfl, .ty n, t1, kit_ty (kitB_all c t2 n h.1), k _ H _ G .refl r rbl h.2⟩
  · exact h.elim
/-! ### methods -/
theorem m_append : MtR3 X "list.append" mAppend := by
  refine ⟨_, mt_append, fun w v ws vs H G Q3 Q r rv rl h k => ?_⟩
  cases w with
  | ref a =>
    simp only [mAppend] at h
    split at h
    · rename_i t eq
      split at h
      · obtain ⟨u, rfl, e⟩ := repl1 rl
        obtain ⟨xs, s1, s2⟩ := r.lst eq
        rw [rep_ref1 rv]
        have m : Mut (H a) := by rw [s1]; trivial
        refine ⟨a, xs, u, rfl, rfl, s1, by rw [← s2.length, sz_eq]; exact h.1, ?_⟩
        exact k _ _ _ _ (.write m) (r.write (o := .lst (t ++ [_])) m ⟨_, upd_same, (s2.append (.one e)).ext (.write m)⟩) rnon h.2
      · exact h.elim
    · exact h.elim
  | _ => exact h.elim
def preH (a : List Nat) : List (List Nat) → List (List Nat)
  | [] => []
  | p :: q => (a ++ p) :: q
theorem spl_split (c : Nat) : ∀ (l acc : List Nat), TL.spl [c] 0 acc l = preH acc (splitN c l)
  | [], acc => by rw [TL.spl_nil]; show [acc] = [acc ++ []]; rw [List.append_nil]
  | d :: r, acc => by
    rw [splitN_cons]
    by_cases h : d = c
    · subst h
      rw [TL.spl_hit (by simp [TL.pre]), show ([d].length - 1) = 0 from rfl, spl_split d r [], if_pos rfl]
      show acc :: preH [] (splitN d r) = (acc ++ []) :: splitN d r
      rw [List.append_nil]
      cases q : splitN d r with
      | nil => exact absurd q (splitN_ne d r)
      | cons p q => rfl
    · rw [TL.spl_miss (by simp [TL.pre]; exact h), spl_split c r, if_neg h]
      cases q : splitN c r with
      | nil => exact absurd q (splitN_ne c r)
      | cons p z => show (acc ++ [d] ++ p) :: z = (acc ++ d :: p) :: z; rw [List.append_assoc]; rfl
theorem tl_S (l : List Nat) : TL.tl (S l) = l := rfl
theorem split_eq {c : Nat} (hc : c < 256) (l : List Nat) : Txt.split (S l) (S [c]) = (splitN c l).map S := by
  apply TL.map_tl_inj
  rw [TL.split_spl _ _ (by simp [S]) (TL.kind_ok (by simpa [S] using hc)), tl_S, tl_S, spl_split]
  rw [List.map_map]
  have e : (TL.tl ∘ S) = id := by funext x; rfl
  rw [e, List.map_id]
  cases q : splitN c l with
  | nil => exact absurd q (splitN_ne c l)
  | cons p r => rfl
theorem repl_strs {K : Frag} {H : Hp} : ∀ ps : List (List Nat), RepL K H (ps.map W.str) ((ps.map S).map V.str)
  | [] => .nil
  | _ :: r => .cons rstr (repl_strs r)
theorem m_split : MtR3 X "str.split" mSplit := by
  refine ⟨_, mt_split, fun w v ws vs H G Q3 Q r rv rl h k => ?_⟩
  cases w with
  | str l =>
    simp only [mSplit] at h
    split at h
    · rename_i c
      obtain ⟨u, rfl, e⟩ := repl1 rl
      rw [rep_str1 rv, rep_str1 e]
      refine ⟨S l, S [c], rfl, rfl, rfl, by rw [S_length, sz_eq]; exact h.2.1, fun p hp => ?_⟩
      rw [split_eq h.1]
      exact k _ _ _ _ (.new hp) (r.new (o := .lst ((splitN c l).map W.str)) hp ⟨_, upd_same, repl_strs _⟩) rref (h.2.2 p (r.free hp))
    · exact h.elim
  | _ => exact h.elim
theorem cnt_count (c : Nat) : ∀ l : List Nat, cnt c l = ((l.count c : Nat) : Int)
  | [] => by rw [cnt_nil]; rfl
  | d :: r => by
    rw [cnt_cons, cnt_count c r, List.count_cons]
    by_cases h : d = c
    · subst h
      rw [if_pos rfl, if_pos (beq_self_eq_true d)]
      omega
    · rw [if_neg h, if_neg (fun z => h (eq_of_beq z))]
      omega
theorem m_count : MtR3 X "str.count" mCount := by
  refine ⟨_, mt_count, fun w v ws vs H G Q3 Q r rv rl h k => ?_⟩
  cases w with
  | str l =>
    simp only [mCount] at h
    split at h
    · rename_i c
      obtain ⟨u, rfl, e⟩ := repl1 rl
      rw [rep_str1 rv, rep_str1 e]
      refine ⟨S l, S [c], rfl, rfl, ?_⟩
      have e : Txt.count (S l) (S [c]) = (l.count c : Nat) := by
        rw [show S [c] = ⟨#[c]⟩ from rfl, count_cnt, S_toList]
        exact cnt_count c l
      rw [e]
      exact k _ H _ G .refl r rint h
    · exact h.elim
  | _ => exact h.elim
theorem join_eqN (s : List Nat) : ∀ ps : List (List Nat), Txt.join (S s) (ps.map S) = S (joinN s ps) := by
  intro ps
  have e : ∀ ps : List (List Nat), TL.joinL s ps = joinN s ps := by
    intro ps
    induction ps with
    | nil => rfl
    | cons p q ih =>
      cases q with
      | nil => rfl
      | cons q r =>
        show p ++ (s ++ TL.joinL s (q :: r)) = p ++ s ++ joinN s (q :: r)
        rw [ih, List.append_assoc]
  rw [TL.join_eq]
  apply TL.ext_tl
  rw [TL.tl_join, tl_S, tl_S, List.map_map]
  have e2 : (TL.tl ∘ S) = id := by funext x; rfl
  rw [e2, List.map_id, e]
theorem m_join : MtR3 X "str.join" mJoin := by
  refine ⟨_, mt_join, fun w v ws vs H G Q3 Q r rv rl h k => ?_⟩
  cases w with
  | str l =>
    simp only [mJoin] at h
    have lens : ∀ ps : List (List Nat), joinLen l ps ≤ SZ → ((ps.map S).map (·.length)).sum + (ps.map S).length * (S l).length ≤ 16777216 := fun ps hz => by
      unfold joinLen at hz
      rw [List.map_map, List.length_map, S_length]
      have e : ((fun x : Str => x.length) ∘ S) = fun x : List Nat => x.length := by funext x; exact S_length x
      rw [e, Nat.mul_comm]
      exact hz
    split at h
    · rename_i a
      obtain ⟨u, rfl, e⟩ := repl1 rl
      rw [rep_str1 rv, rep_ref1 e]
      split at h
      · rename_i t eq
        cases q : strsW t with
        | none => rw [q] at h; exact h.elim
        | some ps =>
          rw [q] at h
          obtain ⟨xs, s1, s2⟩ := r.lst eq
          rw [strs_of q] at s2
          rw [RepL.strs s2] at s1
          refine ⟨S l, a, ps.map S, rfl, rfl, .inl (.inl (.inl s1)), lens ps h.1, ?_⟩
          rw [join_eqN]
          exact k _ H _ G .refl r rstr h.2
      · exact h.elim
    · rename_i t
      obtain ⟨u, rfl, e⟩ := repl1 rl
      obtain ⟨p, xs, rfl, s1, s2⟩ := rep_tup e
      rw [rep_str1 rv]
      cases q : strsW t with
      | none => rw [q] at h; exact h.elim
      | some ps =>
        rw [q] at h
        rw [strs_of q] at s2
        rw [RepL.strs s2] at s1
        refine ⟨S l, p, ps.map S, rfl, rfl, .inr s1, lens ps h.1, ?_⟩
        rw [join_eqN]
        exact k _ H _ G .refl r rstr h.2
    · exact h.elim
  | _ => exact h.elim
/-! ### dicts with plain keys -/
def keyOf : W → Key
  | .int i => .inl i
  | .str l => .inr (S l)
  | _ => .inl 0
theorem key_rep {K : Frag} {H : Hp} {y : W} {u : V} (r : Rep K H y u) (k : key1 y = true) : u = kV (keyOf y) := by
  cases y with
  | int i => exact rep_int1 r
  | str l => exact rep_str1 r
  | _ => cases k
theorem keyOf_keyW {y : W} (k : key1 y = true) : keyW (keyOf y) = y := by
  cases y with
  | int i => rfl
  | str l => show W.str (S l).cps.toList = _; rw [S_toList]
  | _ => cases k
theorem keq_keyW (a : Key) {y : W} (k : key1 y = true) : keq (keyW a) y = decide (a = keyOf y) := by
  cases a with
  | inl i =>
    cases y with
    | int j =>
      show decide (i = j) = _
      rw [Bool.eq_iff_iff, decide_eq_true_iff, decide_eq_true_iff]
      exact ⟨fun e => by rw [e]; rfl, fun e => Sum.inl.inj e⟩
    | str l => exact (decide_eq_false (fun z => nomatch z)).symm
    | _ => cases k
  | inr x =>
    cases y with
    | int j => exact (decide_eq_false (fun z => nomatch z)).symm
    | str l =>
      show decide (x.cps.toList = l) = _
      rw [Bool.eq_iff_iff, decide_eq_true_iff, decide_eq_true_iff]
      exact ⟨fun e => by rw [← e]; show Sum.inr x = Sum.inr (S x.cps.toList); rw [S_of], fun e => by rw [Sum.inr.inj e, S_toList]⟩
    | _ => cases k
theorem look_rep {K : Frag} {H : Hp} {y : W} (k : key1 y = true) : ∀ {kvs : List (W × W)} {ks : List (Key × V)}, RepKV keyW K H kvs ks → (match look kvs y with | some w => ∃ v, valV ks (keyOf y) = some v ∧ Rep K H w v | none => valV ks (keyOf y) = none)
  | [], _, r => by cases r; rfl
  | p :: kvs, _, r => by
    obtain ⟨q, r', rfl, e, rv, rr⟩ := r
    have ih := look_rep k rr
    unfold look
    rw [e, keq_keyW q.1 k]
    by_cases h : q.1 = keyOf y
    · rw [decide_eq_true h, if_pos rfl, valV_pos h]
      exact ⟨q.2, rfl, rv⟩
    · rw [decide_eq_false h, if_neg (by decide), valV_neg h]
      exact ih
theorem look_some {K : Frag} {H : Hp} {y w : W} (k : key1 y = true) {kvs : List (W × W)} {ks : List (Key × V)} (r : RepKV keyW K H kvs ks) (e : look kvs y = some w) : ∃ v, valV ks (keyOf y) = some v ∧ Rep K H w v := by
  have h := look_rep k r
  rw [e] at h
  exact h
theorem look_none {K : Frag} {H : Hp} {y : W} (k : key1 y = true) {kvs : List (W × W)} {ks : List (Key × V)} (r : RepKV keyW K H kvs ks) (e : look kvs y = none) : valV ks (keyOf y) = none := by
  have h := look_rep k r
  rw [e] at h
  exact h
theorem has_rep {K : Frag} {H : Hp} {y : W} (k : key1 y = true) {kvs : List (W × W)} {ks : List (Key × V)} (r : RepKV keyW K H kvs ks) : has kvs y = (valV ks (keyOf y)).isSome := by
  unfold has
  cases e : look kvs y with
  | none => rw [look_none k r e]; rfl
  | some w => obtain ⟨v, q, _⟩ := look_some k r e; rw [q]; rfl
theorem map_rep {K : Frag} {H : Hp} {y w : W} {v : V} (k : key1 y = true) (rw' : Rep K H w v) : ∀ {kvs : List (W × W)} {ks : List (Key × V)}, RepKV keyW K H kvs ks →
    RepKV keyW K H (kvs.map fun p => if keq p.1 y = true then (p.1, w) else p) (ks.map fun kv => if kv.1 = keyOf y then (kv.1, v) else kv)
  | [], _, r => by cases r; rfl
  | p :: kvs, _, r => by
    obtain ⟨q, r', rfl, e, rv, rr⟩ := r
    refine ⟨_, _, rfl, ?_, ?_, map_rep k rw' rr⟩
    · dsimp only
      rw [e, keq_keyW q.1 k]
      by_cases h : q.1 = keyOf y
      · rw [decide_eq_true h, if_pos rfl, if_pos h]
      · rw [decide_eq_false h, if_neg (by decide), if_neg h]; exact e
    · dsimp only
      rw [e, keq_keyW q.1 k]
      by_cases h : q.1 = keyOf y
      · rw [decide_eq_true h, if_pos rfl, if_pos h]; exact rw'
      · rw [decide_eq_false h, if_neg (by decide), if_neg h]; exact rv
theorem snoc_rep {κ : Type} {f : κ → W} {K : Frag} {H : Hp} {w z : W} {k : κ} {v : V} (e : z = f k) (rw' : Rep K H w v) : ∀ {kvs : List (W × W)} {ks : List (κ × V)}, RepKV f K H kvs ks → RepKV f K H (kvs ++ [(z, w)]) (ks ++ [(k, v)])
  | [], _, r => by cases r; exact ⟨_, _, rfl, e, rw', rfl⟩
  | p :: kvs, _, r => by
    obtain ⟨q, r', rfl, e', rv, rr⟩ := r
    exact ⟨q, _, rfl, e', rv, snoc_rep e rw' rr⟩
theorem put_rep {K : Frag} {H : Hp} {y w : W} {v : V} (k : key1 y = true) (rw' : Rep K H w v) {kvs : List (W × W)} {ks : List (Key × V)} (r : RepKV keyW K H kvs ks) : RepKV keyW K H (putD kvs y w) (putK ks (keyOf y) v) := by
  unfold putD putK
  rw [has_rep k r, valV_any]
  split
  · exact map_rep k rw' r
  · exact snoc_rep (keyOf_keyW k).symm rw' r
theorem drop_rep {K : Frag} {H : Hp} {y : W} (k : key1 y = true) : ∀ {kvs : List (W × W)} {ks : List (Key × V)}, RepKV keyW K H kvs ks → RepKV keyW K H (dropD kvs y) (dropK ks (keyOf y))
  | [], _, r => by cases r; rfl
  | p :: kvs, _, r => by
    obtain ⟨q, r', rfl, e, rv, rr⟩ := r
    have ih := drop_rep k rr
    unfold dropD dropK at ih ⊢
    rw [List.filter_cons, List.filter_cons, e, keq_keyW q.1 k]
    by_cases h : q.1 = keyOf y
    · rw [decide_eq_true h, if_neg (by decide), if_neg (by simp [h])]
      exact ih
    · rw [decide_eq_false h, if_pos (by decide), if_pos (by simp [h])]
      exact ⟨q, _, rfl, e, rv, ih⟩
variable {o i e value : Expr} {pos pos' : Pos} {td ty tv : TE}
theorem pe3_dget (hu : X.A.units + 1 < cLine) (ho : PE3 X o td) (hi : PE3 X i ty) (hs : NoSl i) : PE3 X (.Subscript o i pos) (eOp rDget td ty) := fun E tk => by
  obtain ⟨t, p1, q1⟩ := ho E tk
  obtain ⟨u, p2, q2⟩ := hi E tk
  refine ⟨_, pe_dget hu p1 p2 hs, fun σ H γ G Q3 Q hs hr h3 k => ?_⟩
  refine q1 σ H γ G _ _ hs hr h3 fun v H1 w G1 x1 r1 rv h3 => ?_
  refine q2 σ H1 γ G1 _ _ (hs.ext x1) r1 h3 fun v2 H2 w2 G2 x2 r2 rv2 h3 => ?_
  cases w with
  | ref a =>
    simp only [rDget] at h3
    split at h3
    · rename_i kvs eq
      obtain ⟨hk, h3⟩ := h3
      obtain ⟨ks, s1, s2⟩ := r2 a _ eq
      cases q : look kvs w2 with
      | none => rw [q] at h3; exact h3.elim
      | some z =>
        rw [q] at h3
        obtain ⟨y, e1, e2⟩ := look_some hk s2 q
        rw [rep_ref1 rv, key_rep rv2 hk]
        exact ⟨a, y, rfl, by rw [← e1]; exact DGet.k s1, k y H2 z G2 (x1.trans x2) r2 e2 h3⟩
    · exact h3.elim
  | _ => exact h3.elim
theorem ps3_dput (hu : X.A.units + 1 < cLine) (ho : PE3 X o td) (hi : PE3 X i ty) (hv : PE3 X value tv) (hs : swapsWith value (some (.Subscript o i pos')) pos.line X.env = pure false := by rfl) :
    PS3 X (.Assign [.Subscript o i pos'] value pos) (sDput tv td ty) := fun E tk => by
  obtain ⟨t, p1, q1⟩ := hv E tk
  obtain ⟨u, p2, q2⟩ := ho E tk
  obtain ⟨z, p3, q3⟩ := hi E tk
  refine ⟨_, ps_dput hu p2 p3 p1 hs, fun D D3 σ H γ G hE oe hs hr h3 => ?_⟩
  cases E; dsimp only at hE; subst hE
  refine q1 σ H γ G _ _ hs hr h3 fun v H1 w G1 x1 r1 rv h3 => ?_
  refine q2 σ H1 γ G1 _ _ (hs.ext x1) r1 h3 fun v2 H2 w2 G2 x2 r2 rv2 h3 => ?_
  refine q3 σ H2 γ G2 _ _ (hs.ext (x1.trans x2)) r2 h3 fun v3 H3 w3 G3 x3 r3 rv3 h3 => ?_
  cases w2 with
  | ref a =>
    simp only at h3
    split at h3
    · rename_i kvs eq
      obtain ⟨hk, hz, h3⟩ := h3
      obtain ⟨ks, s1, s2⟩ := r3 a _ eq
      rw [rep_ref1 rv2, key_rep rv3 hk]
      have m : Mut (H3 a) := by rw [s1]; trivial
      have y := (x1.trans x2).trans x3
      refine ⟨a, _, rfl, DPut.k s1 (by rw [← s2.length, sz_eq]; exact hz), ?_⟩
      exact oe.nx σ _ γ _ (y.trans (.write m)) (hs.ext (y.trans (.write m))) (r3.write (o := .dct (putD kvs w3 w)) m ⟨_, upd_same, (put_rep hk (rv.ext (x2.trans x3)) s2).ext (.write m)⟩) h3
    · exact h3.elim
  | _ => exact h3.elim
/-! displays -/
def canX (K : Frag) (E : EX) (t3 : TE) : L2.TE := fun σ H Q => ∃ γ G Q3, RepS K E.h0 H γ σ ∧ Rel K H G ∧ t3 γ G (E γ) Q3 ∧ ∀ v H' w G', Ext K H H' → Rel K H' G' → Rep K H' w v → Q3 w G' → Q v H'
theorem PE3.canX {E : EX} {e : Expr} {te : TE} (h : PE3 X e te) (tk : TakesE X E) : PE X e (canX X.K E te) := by
  obtain ⟨t, p, q⟩ := h E tk
  exact ⟨fun pins s σ H Q I ⟨γ, G, Q3, hs, hr, h3, k⟩ => p.run pins s σ H Q I (q σ H γ G Q3 Q hs hr h3 k)⟩
def PPs3 (X : Cx) (pos : Pos) (keys : List (Option Expr)) (values : List Expr) (ps : List (TE × TE)) : Prop := ∀ E : EX, TakesE X E → PPs X pos keys values (ps.map fun p => (canX X.K E p.1, canX X.K E p.2))
theorem pps3_nil : PPs3 X pos [] [] [] := fun E tk => pps_nil
theorem pps3_cons {k v : Expr} {ks : List (Option Expr)} {vs : List Expr} {tk tv : TE} {ps : List (TE × TE)} (hk : PE3 X k tk) (hv : PE3 X v tv) (hr : PPs3 X pos ks vs ps) : PPs3 X pos (some k :: ks) (v :: vs) ((tk, tv) :: ps) := fun E t =>
  pps_cons (hk.canX t) (hv.canX t) (hr E t)
def RepP (K : Frag) (H : Hp) : List (W × W) → List (V × V) → Prop
  | [], vs => vs = []
  | w :: ws, vs => ∃ v r, vs = v :: r ∧ Rep K H w.1 v.1 ∧ Rep K H w.2 v.2 ∧ RepP K H ws r
theorem pairs_sim {K : Frag} {E : EX} {σ : St} {γ : Fr} : ∀ (ps : List (TE × TE)) (H : Hp) (G : Gh) (Q3 : List (W × W) → Gh → Prop) (Q : List (V × V) → Hp → Prop), RepS K E.h0 H γ σ → Rel K H G → pairsD ps γ G (E γ) Q3 →
    (∀ vs H' ws G', Ext K H H' → Rel K H' G' → RepP K H' ws vs → Q3 ws G' → Q vs H') → tPairs (ps.map fun p => (canX K E p.1, canX K E p.2)) σ H Q
  | [], H, G, Q3, Q, hs, hr, h, k => k [] H [] G .refl hr rfl h
  | p :: ps, H, G, Q3, Q, hs, hr, h, k => by
    refine ⟨γ, G, _, hs, hr, h, fun v1 H1 w1 G1 x1 r1 rv1 h => ?_⟩
    refine ⟨γ, G1, _, hs.ext x1, r1, h, fun v2 H2 w2 G2 x2 r2 rv2 h => ?_⟩
    refine pairs_sim ps H2 G2 _ _ (hs.ext (x1.trans x2)) r2 h fun vs H3 ws G3 x3 r3 rp h => ?_
    exact k _ H3 ((w1, w2) :: ws) G3 ((x1.trans x2).trans x3) r3 ⟨_, _, rfl, rv1.ext (x2.trans x3), rv2.ext x3, rp⟩ h
theorem merge_rep {K : Frag} {H : Hp} : ∀ {ws : List (W × W)} {vs : List (V × V)} {kvs : List (W × W)} {ks : List (Key × V)}, RepP K H ws vs → ws.all (fun q => key1 q.1) = true → RepKV keyW K H kvs ks →
    ∃ more : List (Key × V), vs = more.map (fun kv => (kV kv.1, kv.2)) ∧ more.length = ws.length ∧ RepKV keyW K H (mergeD kvs ws) (mergeK ks more)
  | [], _, kvs, ks, r, _, h => by cases r; exact ⟨[], rfl, rfl, h⟩
  | w :: ws, _, kvs, ks, r, a, h => by
    obtain ⟨v, r', rfl, e1, e2, rr⟩ := r
    rw [List.all_cons, Bool.and_eq_true] at a
    obtain ⟨more, m1, m2, m3⟩ := merge_rep rr a.2 (put_rep a.1 e2 h)
    refine ⟨(keyOf w.1, v.2) :: more, ?_, by rw [List.length_cons, List.length_cons, m2], m3⟩
    rw [List.map_cons, ← m1, ← key_rep e1 a.1]
theorem pe3_disp {keys : List (Option Expr)} {values : List Expr} {ps : List (TE × TE)} (h : PPs3 X pos keys values ps) (hall : keys.all (·.isSome) = true) (hl : keys.length = values.length) (h0 : keys ≠ []) (h15 : keys.length ≤ 15) : PE3 X (.Dict keys values pos) (eDict ps) := fun E tk => by
  refine ⟨_, pe_disp (h E tk) hall hl h0 h15, fun σ H γ G Q3 Q hs hr h3 k => fun p hp => ?_⟩
  have x0 : Ext X.K H (upd H p (.dK [])) := .new hp
  refine pairs_sim ps _ _ _ _ (hs.ext x0) (hr.new (o := .dct []) hp ⟨[], upd_same, rfl⟩) (h3 p (hr.free hp)) fun vs H2 ws G2 x2 r2 rp h => ?_
  obtain ⟨e, ha, hz, h⟩ := h
  obtain ⟨ks, s1, s2⟩ := r2 p _ e
  cases s2
  obtain ⟨more, m1, m2, m3⟩ := merge_rep (kvs := []) (ks := []) rp ha rfl
  refine ⟨s1, more, m1, by rw [m2]; exact hz, ?_⟩
  have m : Mut (H2 p) := by rw [s1]; trivial
  exact k _ _ _ _ ((x0.trans x2).trans (.write m)) (r2.write (o := .dct (mergeD [] ws)) m ⟨_, upd_same, m3.ext (.write m)⟩) rref h
end
section
variable {X : Cx} {pos : Pos}
theorem rty {K : Frag} {H : Hp} {n : String} : Rep K H (.ty n) (.ty n) := by simp only [Rep]
theorem pe3_dnew : PE3 X (.Dict [] [] pos) eDnew := fun E tk => ⟨_, pe_dnewK, fun σ H γ G Q3 Q hs hr h3 k => fun p hp =>
  k _ _ _ _ (.new hp) (hr.new (o := .dct []) hp ⟨[], upd_same, rfl⟩) rref (h3 p (hr.free hp))⟩
theorem hu65 {A : Around} {k : Nat} (hr : Room k A) : A.units + 65 < cLine := by have := hr.un; omega
end
/-! ### a def -/
section
variable {P : Program} {w : World} {K : Frag} {mg : Str → Option Value} {base : Heap}
/-- a def whose body is walked, where there is room for one call more -/
theorem fnR_of {C : CXT} {k : Nat} {f : Addr} {nm ql : Str} {prm : Arguments} {bd : List Stmt} {sc : Scope} {d1 d2 d3 d4 cdv ct oc : Value} {n1 n2 : Option Addr} {sl : Array (Option Value)} {N ps : List Str} {sp : L2.Sp}
    (lk : K.lookup f = some ⟨oc, n2, .func (PySem.W.fnOf nm ql prm bd sc d1 d2 d3 d4 n1 cdv ct), sl⟩) (hcd : PySem.W.codeIn K cdv ql = true) (S : FnScope N ps sc) (len : ∀ vs H Q E, sp vs H Q E → vs.length = ps.length)
    (hb : ∀ (A : Around) (o : List Env) (s : Shared) (H : Hp) (vs : List V) (Q : VK) (E : XK), Rm k (A.deeper (envOfC ql sc s.heap.objs.size f cdv)) → sp vs H Q E →
      ∃ t, PSs (cxOf C P w K mg base N ql sc f cdv A o s H E) bd t ∧ t { nx := fun _ H' => Q .non H', rt := Q } (L2.start N vs) H) :
    FnR P w K mg base C (k + 1) f (PySem.W.fnOf nm ql prm bd sc d1 d2 d3 d4 n1 cdv ct) ps sp where
  len := len
  run A o s H as us vs Q E hr e0 hbd rv h := by
    have inn : ∀ b ob, base.get? b = some ob → _ := fun b ob e => (e0.bs b ob e).1
    have kh : K.In s.heap := e0.mod.kin.keeps inn
    have nl : s.heap.NoLimit := e0.mod.nolimit.keeps inn
    have deep : A.depth < recursionLimit := by have := hr.dp; omega
    refine codeAny_call_function deep (kh _ _ lk) rfl S.co S.gen rfl (PySem.W.codeRec_of kh hcd) (hbd _ _ _ _ ?_)
    refine wpAny_newFunctionEnv_cells S.kind (fun ⟨n, v⟩ hy => ?_) fun env he s1 x => ?_
    · have hn := (List.of_mem_zip hy).1
      exact (S.par n hn).imp id fun q => ⟨q, PySem.W.cellsFrom_some _ _ _ (.inl q)⟩
    · subst he
      refine ⟨nl.keeps x.toInCall.keep, codeAny_func ?_⟩
      obtain ⟨t, p, q⟩ := hb A o s H vs Q E (hr.down _) h
      let X := cxOf C P w K mg base N ql sc f cdv A o s H E
      have I : Inv X [] (L2.start N vs) H s1 := inv_start S hr.hd e0 (len _ _ _ _ h) rv x
      have fin : ∀ {σ : St} {H' : Hp} {v : V} {u : Value} {s' : Shared}, Inv X [] σ H' s' → RelV v u → Q v H' → CE o P w H s Q u s' :=
        fun J r z => ⟨_, _, J.os, J.bare, J.base, J.hok, r, z⟩
      refine wpAny_mono (p.run [] s1 _ H _ I q) (fun fl s' z => ?_) fun _ _ z => z
      match fl, z with
      | .ret _, ⟨_, _, _, J, r, z⟩ => exact fin J r z
      | .next, ⟨_, _, J, z⟩ => exact fin (v := .non) (u := .none) J rfl z
      | .brk, ⟨_, _, _, z⟩ => exact z.elim
      | .cont, ⟨_, _, _, z⟩ => exact z.elim
theorem okM {x qual : Str} {st : Stmt} {f : Addr} {fd : FuncData} {N ps : List Str} {k : Nat} {sp : L2.Sp} (F : Fun K x qual st f fd) (S : FnScope N ps (defScope st)) (len : ∀ vs H Q E, sp vs H Q E → vs.length = ps.length)
    (hbody : ∀ (cdv : Value) (A : Around) (outer : List Env) (s : Shared) (H : Hp) (vs : List V) (Q : VK) (E : XK), Rm k (A.deeper (envOfC qual (defScope st) s.heap.objs.size f cdv)) → sp vs H Q E →
      ∃ t, PSs (cxOf (CXM P w) P w K mg base N qual (defScope st) f cdv A outer s H E) (defBody st) t ∧ t { nx := fun _ H' => Q .non H', rt := Q } (L2.start N vs) H) : FnR P w K mg base (CXM P w) (k + 1) f fd ps sp := by
  obtain ⟨_, _, _, _, _, _, cdv, _, _, e, lk, hcd⟩ := F.ex
  subst e
  exact fnR_of lk hcd S len (hbody cdv)
theorem okM0 {x qual : Str} {st : Stmt} {f : Addr} {fd : FuncData} {N ps : List Str} {k : Nat} {sp : L2.Sp} (F : Fun K x qual st f fd) (S : FnScope N ps (defScope st)) (len : ∀ vs H Q E, sp vs H Q E → vs.length = ps.length)
    (hbody : ∀ (cdv : Value) (A : Around) (outer : List Env) (s : Shared) (H : Hp) (vs : List V) (Q : VK) (E : XK), Room k (A.deeper (envOfC qual (defScope st) s.heap.objs.size f cdv)) → sp vs H Q E →
      ∃ t, PSs (cxOf (CXM P w) P w K mg base N qual (defScope st) f cdv A outer s H E) (defBody st) t ∧ t { nx := fun _ H' => Q .non H', rt := Q } (L2.start N vs) H) : FnOk P w K mg base (CXM P w) (k + 1) f fd ps sp := by
  obtain ⟨_, _, _, _, _, _, cdv, _, _, e, lk, hcd⟩ := F.ex
  subst e
  exact fn_of lk hcd S len (hbody cdv)
theorem ok3 {x qual : Str} {st : Stmt} {f : Addr} {fd : FuncData} {N ps : List Str} {k : Nat} {sp : Sp} {rd : TS} (mono : Mono sp) (F : Fun K x qual st f fd) (Sc : FnScope N ps (defScope st)) (len : ∀ ws G Q E, sp ws G Q E → ws.length = ps.length)
    (term : ∀ (cdv : Value) (A : Around) (outer : List Env) (s : Shared) (H : Hp) (E : XK), Rm k (A.deeper (envOfC qual (defScope st) s.heap.objs.size f cdv)) → PSs3 (cxOf (CXM P w) P w K mg base N qual (defScope st) f cdv A outer s H E) (defBody st) rd)
    (vc : ∀ ws G Q E, Fgt Q E → sp ws G Q E → rd { nx := fun _ G' => Q .non G', rt := Q, ex := fun _ => E } (startF N.length ws) G) : Ok3 P w K mg base (k + 1) f fd ps sp := by
  refine okM F Sc (fun vs H Q E h => ?_) fun cdv A outer s H vs Q E hr h => ?_
  · obtain ⟨ws, G, Q3, E3, rl, _, h, _, _⟩ := h
    exact rl.length.symm.trans (len _ _ _ _ h)
  · obtain ⟨ws, G, Q3, E3, rl, rr, h, k1, k2⟩ := h
    let X := cxOf (CXM P w) P w K mg base N qual (defScope st) f cdv A outer s H E
    -- the widest ends
    let Qw : QV := fun w' G' => ∀ v H', Ext K H H' → Rel K H' G' → Rep K H' w' v → Q v H'
    let Ew : XQ := fun w' es G' => ∀ d H', Rel K H' G' → exRep K H' d es → E (clsV w') d H'
    have fg : Fgt Qw Ew := ⟨fun w' G1 G2 l q v H' x r rv => q v H' x (r.forget l) rv, fun w' es G1 G2 l q d H' r e => q d H' (r.forget l) e⟩
    have tk : TakesE X ⟨fun _ => Ew, H⟩ := by
      refine tkM_imp (tkM_of (X := X) (E := E) rfl rfl rfl rfl) fun c d σ' H' z => ?_
      obtain ⟨γ, G', w', es, _, r, rfl, ex, q⟩ := z
      exact q d H' r ex
    obtain ⟨t, p, q⟩ := term cdv A outer s H E hr ⟨fun _ => Ew, H⟩ tk
    refine ⟨t, p, q _ { nx := fun _ G' => Qw .non G', rt := Qw, ex := fun _ => Ew } _ _ (startF N.length ws) G rfl ⟨fun σ' H' γ' G' x _ r z => z .non H' x r rnon, fun v H' w' G' x r rv z => z v H' x r rv, fun _ _ _ _ _ _ _ z => z.elim, fun _ _ _ _ _ _ _ z => z.elim⟩ ?_ rr ?_⟩
    · refine ⟨?_, .refl⟩
      show RepQ K H (startF N.length ws) (L2.start N vs)
      unfold startF L2.start
      rw [rl.length]
      exact RepQ.start (n := N.length) rl _
    · exact vc ws G Qw Ew fg (mono _ _ _ _ _ _ (fun w' G' z v H' x r rv => k1 v H' w' G' x r rv z) (fun w' es G' z d H' r ex => k2 d H' w' es G' r ex z) h)
end
end L3

end
section
/-! L3SndF: what the package wants more: constants, all, repr, zip, replace. -/
namespace L3
open PySem PySem.Spec PyProof.Rows L2 CwR
section
variable {X : Cx} {pos : Pos}
theorem ps3_never {st : Stmt} : PS3 X st sNever := fun E tk => ⟨_, ps_never, fun D D3 σ H γ G he ho hs hr h3 => h3.elim⟩
theorem pss3_never {st : List Stmt} : PSs3 X st sNever := fun E tk => ⟨_, pss_never, fun D D3 σ H γ G he ho hs hr h3 => h3.elim⟩
theorem pe3_never {e : Expr} : PE3 X e eNever := fun E tk => ⟨fun _ _ _ => False, ⟨fun _ _ _ _ _ _ h => h.elim⟩, fun σ H γ G Q3 Q hs hr h3 k => h3.elim⟩
/-! ### constants of the module -/
mutual
theorem repB_ok {K : Frag} : ∀ (n : Nat) (w : W) (u : Value), repB K n w u = true → ∃ v, RelV v u ∧ ∀ H, Rep K H w v
  | n, .non, u, h => by
    cases u <;> (try (unfold repB at h; cases h; done))
    exact ⟨.non, rfl, fun H => by simp only [Rep]⟩
  | n, .bl b, u, h => by
    cases u <;> (try (unfold repB at h; cases h; done))
    unfold repB at h
    exact ⟨.bl b, by rw [eq_of_beq h]; rfl, fun H => by simp only [Rep]⟩
  | n, .int b, u, h => by
    cases u <;> (try (unfold repB at h; cases h; done))
    unfold repB at h
    exact ⟨.int b, ⟨_, by rw [eq_of_beq h]⟩, fun H => by simp only [Rep]⟩
  | n, .str l, u, h => by
    cases u <;> (try (unfold repB at h; cases h; done))
    unfold repB at h
    rename_i x t
    have e := of_decide_eq_true h
    refine ⟨.str x, ⟨_, rfl⟩, fun H => ?_⟩
    simp only [Rep]
    rw [← e]
  | n + 1, .ktp ws, u, h => by
    cases u <;> (try (unfold repB at h; cases h; done))
    rename_i a
    unfold repB at h
    simp only at h
    · split at h
      · rename_i od its m sl e
        rw [Bool.and_eq_true] at h
        obtain ⟨vs, h1, h2⟩ := repBL_ok n ws its.toList h.2
        refine ⟨.ref a, rfl, fun H => ?_⟩
        simp only [Rep]
        exact ⟨a, vs, rfl, .inr ⟨_, its, m, e, rfl, rfl, of_decide_eq_true h.1, h1⟩, h2 H⟩
      · cases h
  | 0, .ktp ws, u, h => by unfold repB at h; cases h
  | n, .tup ws, u, h => by unfold repB at h; cases h
  | n, .ref a, u, h => by
    cases u <;> (try (unfold repB at h; cases h; done))
    unfold repB at h
    exact ⟨.ref a, by rw [eq_of_beq h]; rfl, fun H => by simp only [Rep]⟩
  | n, .ty _, u, h => by unfold repB at h; cases h
  | n, .kl _, u, h => by unfold repB at h; cases h
theorem repBL_ok {K : Frag} : ∀ (n : Nat) (ws : List W) (us : List Value), repBL K n ws us = true → ∃ vs, Vals vs us ∧ ∀ H, RepL K H ws vs
  | n, [], us, h => by
    unfold repBL at h
    cases us with
    | nil => exact ⟨[], .nil, fun H => .nil⟩
    | cons _ _ => cases h
  | n, w :: ws, us, h => by
    unfold repBL at h
    cases us with
    | nil => cases h
    | cons u r =>
      simp only [Bool.and_eq_true] at h
      obtain ⟨v, h1, h2⟩ := repB_ok n w u h.1
      obtain ⟨vs, h3, h4⟩ := repBL_ok n ws r h.2
      exact ⟨v :: vs, .cons h1 h3, fun H => .cons (h2 H) (h4 H)⟩
end
/-- a constant of the module stands there -/
def Kst (K : Frag) (mg : Str → Option Value) (x : Str) (w : W) : Prop := ∃ u, mg x = some u ∧ ∃ v, RelV v u ∧ ∀ H, Rep K H w v
theorem kst_of {K : Frag} {h : Heap} {mg : Str → Option Value} {x : Str} {w : W} {u : Value} (hK : K.In h) (hN : h.Ns mainGlobals mg) (e : PySem.W.nsIn K mainGlobals x = some (some u)) (b : repB K 60 w u = true) : Kst K mg x w :=
  ⟨u, PySem.W.mg_of hK hN e, repB_ok _ _ _ b⟩
theorem pe3_kst {x : Str} {w : W} (hk : Kst X.K X.mg x w) (hg : Gl X x) (hd : (x == ("__debug__" : Str)) = false := by decide) : PE3 X (.Name x pos) (eC w) := by
  obtain ⟨u, h1, v, h2, h3⟩ := hk
  exact pe3_c (v := v) ⟨fun pins s σ H Q I h => ld_glob I hg h1 ⟨v, H, I, h2, h⟩ hd⟩ h3
/-! ### all, any, repr -/
theorem bls_of : ∀ {ws : List W} {bs : List Bool}, blsW ws = some bs → ws = bs.map W.bl
  | [], bs, h => by cases h; rfl
  | .bl i :: r, bs, h => by
    simp only [blsW] at h
    cases e : blsW r with
    | none => rw [e] at h; cases h
    | some zs => rw [e] at h; cases h; rw [bls_of e]; rfl
  | .non :: _, _, h => by cases h
  | .int _ :: _, _, h => by cases h
  | .str _ :: _, _, h => by cases h
  | .ref _ :: _, _, h => by cases h
  | .ty _ :: _, _, h => by cases h
  | .tup _ :: _, _, h => by cases h
  | .kl _ :: _, _, h => by cases h
  | .ktp _ :: _, _, h => by cases h
theorem bls_sql {H : Hp} {G : Gh} {a : Addr} {t : List W} {bs : List Bool} (r : Rel X.K H G) (e : G a = some (.lst t)) (q : blsW t = some bs) : SqL X.K H a (bs.map V.bl) := by
  obtain ⟨xs, s1, s2⟩ := r.lst e
  rw [bls_of q] at s2
  rw [RepL.bools s2] at s1
  exact .inl (.inl s1)
theorem b_all (hc : X.calm = true) : CallR3 X (.builtin "all") bAll := by
  refine ⟨_, cr_all hc, fun ws vs H G Q3 Q r rv h k => ?_⟩
  simp only [bAll] at h
  split at h
  · obtain ⟨v, rfl, e⟩ := repl1 rv
    rw [rep_ref1 e]
    split at h
    · rename_i t eq
      split at h
      · rename_i bs q
        exact ⟨_, bs, rfl, bls_sql r eq q, k _ H _ G .refl r rbl h⟩
      · exact h.elim
    · exact h.elim
  · exact h.elim
theorem b_any (hc : X.calm = true) : CallR3 X (.builtin "any") bAny := by
  refine ⟨_, cr_any hc, fun ws vs H G Q3 Q r rv h k => ?_⟩
  simp only [bAny] at h
  split at h
  · obtain ⟨v, rfl, e⟩ := repl1 rv
    rw [rep_ref1 e]
    split at h
    · rename_i t eq
      split at h
      · rename_i bs q
        exact ⟨_, bs, rfl, bls_sql r eq q, k _ H _ G .refl r rbl h⟩
      · exact h.elim
    · exact h.elim
  · exact h.elim
theorem call_repr_bl : CallR X (.builtin "repr") (fun xs H Q => ∃ b : Bool, xs = [.bl b] ∧ Q (.str (if b then "True" else "False")) H) := by
  intro pins s σ H xs us Q I r h
  obtain ⟨b, rfl, q⟩ := h
  obtain ⟨u, rfl, e⟩ := vals1 r
  cases e
  exact PySem.P.repr_of_bool ⟨.str _, H, I.tok _, ⟨_, rfl⟩, q⟩
theorem b_repr : CallR3 X (.builtin "repr") bRepr := by
  refine ⟨_, call_repr_bl, fun ws vs H G Q3 Q r rv h k => ?_⟩
  simp only [bRepr] at h
  split at h
  · rename_i b
    obtain ⟨v, rfl, e⟩ := repl1 rv
    rw [rep_bl e]
    refine ⟨b, rfl, k _ H _ G .refl r ?_ h⟩
    cases b <;> (simp only [Rep]; rfl)
  · exact h.elim
/-! ### zip of two lists -/
theorem seq_items {K : Frag} {H : Hp} {G : Gh} {a : Addr} {ws : List W} (r : Rel K H G) (e : items (.ref a) G = some ws) : ∃ xs, SqL K H a xs ∧ RepL K H ws xs := by
  simp only [items] at e
  cases q : G a with
  | none => rw [q] at e; cases e
  | some o =>
    rw [q] at e
    cases o with
    | lst t => cases e; exact r.seq (.inl q)
    | rdl t => cases e; exact r.seq (.inr q)
    | _ => cases e
theorem simIt_zip {K : Frag} {H0 : Hp} {a b : Addr} : SimIt K H0 (Itz K a b) (zitems (.ref a) (.ref b)) := by
  intro i H G all x r e
  unfold zitems at e
  cases e1 : items (.ref a) G with
  | none => rw [e1] at e; cases e
  | some xs =>
    cases e2 : items (.ref b) G with
    | none => rw [e1, e2] at e; cases e
    | some ys =>
      rw [e1, e2] at e
      cases e
      obtain ⟨vs, s1, s2⟩ := seq_items r e1
      obtain ⟨us, t1, t2⟩ := seq_items r e2
      refine ⟨fun w ew => ?_, fun hl => ⟨vs, us, s1, t1, ?_⟩⟩
      · rw [List.getElem?_zipWith] at ew
        cases q1 : xs[i]? with
        | none => rw [q1] at ew; cases ew
        | some wx =>
          cases q2 : ys[i]? with
          | none => rw [q1, q2] at ew; cases ew
          | some wy =>
            rw [q1, q2] at ew
            cases ew
            obtain ⟨vx, g1, g2⟩ := s2.get q1
            obtain ⟨vy, g3, g4⟩ := t2.get q2
            refine ⟨⟨vs, us, vx, vy, s1, t1, g1, g3⟩, fun z H' hy => ?_⟩
            obtain ⟨T, x', y', rfl, hT, rfl, f1, f2⟩ := hy
            have ex : x' = vx := Option.some.inj ((f1 vs s1).symm.trans g1)
            have ey : y' = vy := Option.some.inj ((f2 us t1).symm.trans g3)
            subst ex ey
            refine ⟨.new hT, r.hid hT, ?_⟩
            simp only [Rep]
            exact ⟨T, _, rfl, upd_same, .cons (g2.ext (.new hT)) (.one (g4.ext (.new hT)))⟩
      · rw [List.length_zipWith, s2.length, t2.length] at hl
        omega
theorem pi3_zip {a b : Expr} {ta : TA} {p tpos : Pos} {elts : List Expr} {kk : Nat} (hg : Gl X "zip") (hm : X.mg "zip" = none) (ha : PA3 X [a, b] ta) (hs : starEach [a, b] X.env = (false, eval a X.env) :: starEach [b] X.env := by rfl)
    (hpl : (backTo pos (starEach [b] X.env)).any (·.1) = false := by rfl) : PI3 X (.Tuple elts kk tpos) (.Call (.Name "zip" p) [a, b] [] pos) (iZip ta) := fun E tk => by
  obtain ⟨t, p1, q⟩ := ha E tk
  refine ⟨_, pi_zip hg hm p1 hs hpl, fun σ H γ G R3 R hs hr h3 k => ?_⟩
  refine q σ H γ G _ _ hs hr h3 fun vs H1 ws G1 x1 r1 rv h3 => ?_
  split at h3
  · obtain ⟨v, u, rfl, r1v, ru⟩ := repl2 rv
    rw [rep_ref1 r1v, rep_ref1 ru]
    rename_i p q
    have hz := h3.1
    unfold zitems at hz
    cases e1 : items (.ref p) G1 with
    | none => rw [e1] at hz; cases hz
    | some xs =>
      cases e2 : items (.ref q) G1 with
      | none => rw [e1, e2] at hz; cases hz
      | some ys =>
        obtain ⟨vs, s1, _⟩ := seq_items r1 e1
        obtain ⟨us, t1, _⟩ := seq_items r1 e2
        exact ⟨p, q, vs, us, rfl, s1, t1, k _ _ H1 G1 x1 r1 simIt_zip h3.2⟩
  · exact h3.elim
/-! ### replace, behind a token -/
def PE3T (X : Cx) (e : Expr) (t3 : TE) : Prop := ∀ E : EX, TakesE X E → ∃ t, PET X e t ∧ SimE X.K E.h0 t fun γ G Q => t3 γ G (E γ) Q
def PS3T (X : Cx) (st : Stmt) (t3 : TS) : Prop := ∀ E : EX, TakesE X E → ∃ t, PST X st t ∧ SimS X.K E.h0 E t t3
def PSs3T (X : Cx) (st : List Stmt) (t3 : TS) : Prop := ∀ E : EX, TakesE X E → ∃ t, PSsT X st t ∧ SimS X.K E.h0 E t t3
def PTB (X : Cx) (e : Expr) (t : L2.TT) : Prop := ∀ (pins : List (Addr × Obj)) (s : Shared) (σ : St) (H : Hp) (Q : Bool → Hp → Prop), Inv X pins σ H s → t σ H Q → wpAny (model X.prog X.w) X.A (isTrue e X.env (eval e X.env)) (fun b s' => 1 ≤ s'.toks ∧ TP X pins σ Q b s') X.xe s
def PTB3 (X : Cx) (e : Expr) (t3 : TT) : Prop := ∀ E : EX, TakesE X E → ∃ t, PTB X e t ∧ SimT X.K E.h0 t fun γ G Q => t3 γ G (E γ) Q
theorem PS3T.of {st : Stmt} {t : TS} (h : PS3 X st t) : PS3T X st t := fun E tk => by
  obtain ⟨u, p, q⟩ := h E tk
  exact ⟨u, PST.of p, q⟩
theorem PSs3T.of {st : List Stmt} {t : TS} (h : PSs3 X st t) : PSs3T X st t := fun E tk => by
  obtain ⟨u, p, q⟩ := h E tk
  exact ⟨u, PSsT.of p, q⟩
theorem pss3t_one {st : Stmt} {t : TS} (h : PS3T X st t) : PSs3T X [st] t := fun E tk => by
  obtain ⟨u, p, q⟩ := h E tk
  refine ⟨_, psst_one p, fun D D3 σ H γ G he ho hs hr h3 => q _ D3 σ H γ G he ho hs hr h3⟩
/-- a test whose right side is a written number: a token is out behind it -/
theorem ptb_cmp {op : CmpOp} {r : L2.R2} {a : Expr} {ta : L2.TE} {i : Int} {j : Nat} {p pos : Pos} (ho : OpR X (compareOp op) r) (ha : PE X a ta) (hm : behindInMarks op (.Constant (.int i) j p) = false) : PTB X (.Compare a [op] [.Constant (.int i) j p] pos) (tTest (tOp r ta (tC (.int i)))) := by
  intro pins s σ H Q I h
  refine wpAny_isTrue_Compare1 (thn (ha.run pins s σ H _ I h) fun v s1 ⟨x, H1, I1, r1, q1⟩ => wpAny_Constant_int ?_) hm
  refine wpAny_mono (PySem.wpAny_toks (ho pins _ σ H1 x (.int i) v _ _ (I1.tok _) r1 ⟨_, rfl⟩ q1)) (fun c s3 q => ?_) fun _ _ z => z.2
  obtain ⟨hk, z, H3, I3, r3, k, e, q3⟩ := q
  subst e
  cases r3
  exact wpAny_truthy_bool ⟨Nat.le_trans (Nat.le_add_left 1 s1.toks) hk, H3, I3, q3⟩
theorem ptb3_cmp {op : CmpOp} {r3 : R2} {a : Expr} {ta : TE} {i : Int} {j : Nat} {p pos : Pos} (ho : OpR3 X (compareOp op) r3) (ha : PE3 X a ta) (hm : behindInMarks op (.Constant (.int i) j p) = false) : PTB3 X (.Compare a [op] [.Constant (.int i) j p] pos) (tV (eOp r3 ta (eC (.int i)))) := fun E tk => by
  obtain ⟨r, h1, h2⟩ := ho
  obtain ⟨t, p1, q1⟩ := ha E tk
  refine ⟨_, ptb_cmp h1 p1 hm, fun σ H γ G Q3 Q hs hr h3 k => ?_⟩
  refine q1 σ H γ G _ _ hs hr h3 fun v H1 w G1 x1 r1 rv h3 => ?_
  refine h2 _ _ _ _ _ _ _ _ r1 rv (by simp only [Rep]) h3 fun v3 H3 w3 G3 x3 r3 rv3 h3 => ?_
  cases w3 with
  | bl b => exact ⟨b, rep_bl rv3, k b H3 G3 (x1.trans x3) r3 h3⟩
  | _ => exact h3.elim
theorem psB_if {c : Expr} {a b : List Stmt} {tc : L2.TT} {t u : L2.TS} (hc : PTB X c tc) (ha : PSsT X a t) (hb : PSsT X b u) : PS X (.If c a b pos) (tIfS tc t u) := by
  refine ⟨fun pins s σ H D I h => ?_⟩
  refine wpAny_If (thn (hc pins s σ H _ I h) fun d s1 ⟨hk, H1, I1, q1⟩ => ?_)
  cases d with
  | true => exact ha pins s1 σ H1 D hk I1 q1
  | false => exact hb pins s1 σ H1 D hk I1 q1
theorem ps3_ifB {c : Expr} {a b : List Stmt} {tc : TT} {t u : TS} (hc : PTB3 X c tc) (ha : PSs3T X a t) (hb : PSs3T X b u) : PS3 X (.If c a b pos) (sIf tc t u) := fun E tk => by
  obtain ⟨t0, p0, q0⟩ := hc E tk
  obtain ⟨t1, p1, q1⟩ := ha E tk
  obtain ⟨t2, p2, q2⟩ := hb E tk
  refine ⟨_, psB_if p0 p1 p2, fun D D3 σ H γ G he ho hs hr h3 => ?_⟩
  have he' := he
  cases E; dsimp only at he; subst he
  refine q0 σ H γ G _ _ hs hr h3 fun b H1 G1 x1 r1 h3 => ?_
  cases b with
  | true => exact iteT (q1 D D3 σ H1 γ G1 he' (ho.ext x1) (hs.ext x1) r1 (by simpa using h3))
  | false => exact iteF (q2 D D3 σ H1 γ G1 he' (ho.ext x1) (hs.ext x1) r1 (by simpa using h3))
theorem pst_set {i : Nat} {x : Str} {e : Expr} {te : L2.TE} {pos' : Pos} (hN : X.N.Nodup) (hi : X.N[i]? = some x) (hx : Loc X.env.scope x) (he : PET X e te) (hs : swapsWith e (some (.Name x pos')) pos.line X.env = pure false := by rfl) (hf : X.fn x = true ∨ X.env.scope.names.lookup x = some .local := by first | exact .inl rfl | exact .inr rfl | assumption) :
    PST X (.Assign [.Name x pos'] e pos) (tAsg te (L2.gName i)) := by
  intro pins s σ H D ht I h
  refine wpAny_Assign_Name (thn (he pins s σ H _ ht I h) fun v s1 ⟨y, H1, I1, r1, q1⟩ => ?_) hs
  exact store_ok I1 hN hi hx r1 (fun s2 I2 => ⟨_, H1, I2, q1⟩) hf
theorem ps3t_set {i : Nat} {x : Str} {e : Expr} {te : TE} {pos' : Pos} (hN : X.N.Nodup) (hi : X.N[i]? = some x) (hx : Loc X.env.scope x) (h : PE3T X e te) (hs : swapsWith e (some (.Name x pos')) pos.line X.env = pure false := by rfl) (hf : X.fn x = true ∨ X.env.scope.names.lookup x = some .local := by first | exact .inl rfl | exact .inr rfl | assumption) :
    PS3T X (.Assign [.Name x pos'] e pos) (sSet i te) := fun E tk => by
  obtain ⟨t, p, q⟩ := h E tk
  refine ⟨_, pst_set hN hi hx p hs hf, fun D D3 σ H γ G he ho hs hr h3 => ?_⟩
  cases E; dsimp only at he; subst he
  exact q σ H γ G _ _ hs hr h3 fun v H' w G' x r rv h => ho.nx _ H' _ G' x ((hs.ext x).put rv) r h
theorem replace_S {c : Nat} (hc : c < 256) (s z : List Nat) : Txt.replace (S s) (S [c]) (S z) = S (joinN z (splitN c s)) := by
  rw [show S [c] = (⟨#[c]⟩ : Str) from rfl, StrLaws.replace_one, show (⟨#[c]⟩ : Str) = S [c] from rfl, split_eq hc, ← StrLaws.glued_eq_join]
  exact join_eqN z _
theorem pe3t_rep {o : Expr} {to : TE} {y z : Str} {c : Nat} {zl : List Nat} {j k : Nat} {c0 c1 apos pos : Pos} (ho : PE3 X o to) (ey : y = S [c] := by rfl) (ez : z = S zl := by rfl) (hyz : (y == z) = false := by decide +kernel)
    (hst : starEach [.Constant (.str y) j c0, .Constant (.str z) k c1] X.env = [(false, eval (.Constant (.str y) j c0) X.env), (false, eval (.Constant (.str z) k c1) X.env)] := by rfl)
    (hbase : attributeBase o "replace" X.env (eval o X.env) = eval o X.env := by rfl) (hline : (apos.endLine == pos.line) = true := by rfl) :
    PE3T X (.Call (.Attribute o "replace" apos) [.Constant (.str y) j c0, .Constant (.str z) k c1] [] pos) (eBm "str" mReplace to (aCons (eC (.str [c])) (aCons (eC (.str zl)) aNil))) := fun E tk => by
  obtain ⟨t, p, q⟩ := ho E tk
  refine ⟨_, pet_replC p hyz hst hbase hline, fun σ H γ G Q3 Q hs hr h3 k => ?_⟩
  refine q σ H γ G _ _ hs hr h3 fun v H1 w G1 x1 r1 rv h3 => ?_
  simp only [aCons, aNil, eC] at h3
  obtain ⟨h3, h4⟩ := h3
  cases w with
  | str l =>
    simp only [mReplace] at h4
    refine ⟨S l, rep_str1 rv, ?_, ?_⟩
    · rw [S_length, ez, S_length]; exact h4.1
    · rw [ey, ez, replace_S h4.2.1]
      exact k _ _ _ _ x1 r1 rstr h4.2.2
  | _ => exact h4.elim
theorem getD_iff {s : List Nat} {v c : Nat} (h : v < s.length) : (S s).cps.getD v 0 = c ↔ s[v]? = some c := by
  have e : (S s).cps.getD v 0 = s[v] := by simp [S, Array.getD, h]
  rw [e, List.getElem?_eq_getElem h]
  simp
theorem m_find3 : MtR3 X "str.find" mFind3 := by
  refine ⟨_, mt_find3, fun w v ws vs H G Q3 Q r rv rl h k => ?_⟩
  cases w with
  | str l =>
    simp only [mFind3] at h
    split at h
    · rename_i c i
      obtain ⟨u, u2, rfl, e, e2⟩ := repl2 rl
      rw [rep_str1 rv, rep_str1 e, rep_int1 e2]
      obtain ⟨h0, h⟩ := h
      refine ⟨S l, S [c], i, rfl, rfl, k _ H _ G .refl r rint (h _ ?_)⟩
      have hl : (S l).length = l.length := S_length l
      have hs := StrLaws.find3_spec (S l) c i
      have ef : ∀ v : Nat, fromIndex (S l).length i ≤ v ↔ i.toNat ≤ v := fun v => by
        unfold fromIndex
        rw [if_neg (by omega)]
        omega
      rcases hs with ⟨e, hn⟩ | ⟨k', e, h1, h2, h3, h4⟩
      · refine .inl ⟨e, fun v hv => ?_⟩
        by_cases hv2 : v < l.length
        · intro z
          exact hn v ((ef v).mpr hv) (by rw [hl]; exact hv2) ((getD_iff hv2).mpr z)
        · rw [List.getElem?_eq_none (by omega)]; exact fun z => nomatch z
      · rw [hl] at h2
        refine .inr ⟨k', e, (ef k').mp h1, (getD_iff h2).mp h3, fun v hv hk z => h4 v ((ef v).mpr hv) hk ((getD_iff (by omega)).mpr z)⟩
    · exact h.elim
  | _ => exact h.elim
end
end L3

end
section
/-! L3SndG: three comparisons in a row, tuple(..), rfind. -/
namespace L3
open PySem PySem.Spec PyProof.Rows L2
section
variable {X : Cx} {pos : Pos} {a b c d : Expr}
def tChain3 (r r' r'' : L2.R2) (ta tb tc td : L2.TE) : L2.TE := fun σ H Q => ta σ H fun x H1 => tb σ H1 fun y H2 => r x y H2 fun z H3 => ∃ k, z = .bl k ∧
  (if k = true then tc σ H3 fun w' H4 => r' y w' H4 fun z2 H5 => ∃ k2, z2 = .bl k2 ∧ (if k2 = true then td σ H5 fun u' H6 => r'' w' u' H6 Q else Q (.bl false) H5) else Q (.bl false) H3)
theorem pt_chain3 {op op' op'' : CmpOp} {r r' r'' : L2.R2} {ta tb tc td : L2.TE} (ho : OpR X (compareOp op) r) (ho' : OpR X (compareOp op') r') (ho'' : OpR X (compareOp op'') r'') (ha : PE X a ta) (hb : PE X b tb) (hc : PE X c tc) (hd : PE X d td)
    (hm : lastMarks [op, op', op''] [b, c, d] = false := by with_unfolding_all rfl) : PT X (.Compare a [op, op', op''] [b, c, d] pos) (tTest (tChain3 r r' r'' ta tb tc td)) := by
  refine ⟨fun pins s σ H Q I h => ?_⟩
  refine isTrue_chain (thn (ha.run pins s σ H _ I h) fun v s1 ⟨x, H1, I1, r1, q1⟩ => test_link (thn (hb.run pins s1 σ H1 _ I1 q1) fun u s2 ⟨y, H2, I2, r2, q2⟩ =>
    thn (ho pins s2 σ H2 x y v u _ I2 r1 r2 q2) fun d s3 ⟨z, H3, I3, r3, k, e, q3⟩ => ?_)) hm
  subst e
  cases r3
  refine wpAny_truthy_bool ?_
  cases k with
  | false =>
    obtain ⟨k', e', q'⟩ := q3
    cases e'
    exact ite_ff ⟨H3, I3, q'⟩
  | true =>
    refine ite_tt (test_link (thn (hc.run pins s3 σ H3 _ I3 q3) fun w' s4 ⟨z', H4, I4, r4, q4⟩ => thn (ho' pins s4 σ H4 y z' u w' _ I4 r2 r4 q4) fun d' s5 ⟨z2, H5, I5, r5, k2, e2, q5⟩ => ?_))
    subst e2
    cases r5
    refine wpAny_truthy_bool ?_
    cases k2 with
    | false =>
      obtain ⟨k', e', q'⟩ := q5
      cases e'
      exact ite_ff ⟨H5, I5, q'⟩
    | true =>
      refine ite_tt (test_last (thn (hd.run pins s5 σ H5 _ I5 q5) fun u' s6 ⟨z6, H6, I6, r6, q6⟩ => thn (ho'' pins s6 σ H6 z' z6 w' u' _ I6 r4 r6 q6) fun d2 s7 ⟨z7, H7, I7, r7, k3, e3, q7⟩ => ?_))
      subst e3
      cases r7
      exact wpAny_truthy_bool ⟨H7, I7, q7⟩
theorem pt3_ch3 {op op' op'' : CmpOp} {r3 r3' r3'' : R2} {ta tb tc td : TE} (ho : OpR3 X (compareOp op) r3) (ho' : OpR3 X (compareOp op') r3') (ho'' : OpR3 X (compareOp op'') r3'') (ha : PE3 X a ta) (hb : PE3 X b tb) (hc : PE3 X c tc) (hd : PE3 X d td)
    (hm : lastMarks [op, op', op''] [b, c, d] = false := by with_unfolding_all rfl) : PT3 X (.Compare a [op, op', op''] [b, c, d] pos) (tV (eCh3 r3 r3' r3'' ta tb tc td)) := fun E tk => by
  obtain ⟨r, h1, h2⟩ := ho
  obtain ⟨r', h1', h2'⟩ := ho'
  obtain ⟨r'', h1'', h2''⟩ := ho''
  obtain ⟨t, p1, q1⟩ := ha E tk
  obtain ⟨u, p2, q2⟩ := hb E tk
  obtain ⟨z, p3, q3⟩ := hc E tk
  obtain ⟨y, p4, q4⟩ := hd E tk
  refine ⟨_, pt_chain3 h1 h1' h1'' p1 p2 p3 p4 hm, fun σ H γ G Q3 Q hs hr h3 k => ?_⟩
  simp only [tV, eCh3] at h3
  refine q1 σ H γ G _ _ hs hr h3 fun v H1 w G1 x1 r1 rv h3 => ?_
  refine q2 σ H1 γ G1 _ _ (hs.ext x1) r1 h3 fun v2 H2 w2 G2 x2 r2 rv2 h3 => ?_
  refine h2 _ _ _ _ _ _ _ _ r2 (rv.ext x2) rv2 h3 fun v3 H3 w3 G3 x3 r3 rv3 h3 => ?_
  cases w3 with
  | bl b =>
    refine ⟨b, rep_bl rv3, ?_⟩
    cases b with
    | false => exact iteF ⟨false, rfl, k _ H3 G3 ((x1.trans x2).trans x3) r3 h3⟩
    | true =>
      refine iteT (q3 σ H3 γ G3 _ _ (hs.ext ((x1.trans x2).trans x3)) r3 h3 fun v4 H4 w4 G4 x4 r4 rv4 h3 => ?_)
      refine h2' _ _ _ _ _ _ _ _ r4 (rv2.ext (x3.trans x4)) rv4 h3 fun v5 H5 w5 G5 x5 r5 rv5 h3 => ?_
      cases w5 with
      | bl b2 =>
        refine ⟨b2, rep_bl rv5, ?_⟩
        cases b2 with
        | false => exact iteF ⟨false, rfl, k _ H5 G5 (((x1.trans x2).trans x3).trans (x4.trans x5)) r5 h3⟩
        | true =>
          refine iteT (q4 σ H5 γ G5 _ _ (hs.ext (((x1.trans x2).trans x3).trans (x4.trans x5))) r5 h3 fun v6 H6 w6 G6 x6 r6 rv6 h3 => ?_)
          refine h2'' _ _ _ _ _ _ _ _ r6 (rv4.ext (x5.trans x6)) rv6 h3 fun v7 H7 w7 G7 x7 r7 rv7 h3 => ?_
          cases w7 with
          | bl b3 => exact ⟨b3, rep_bl rv7, k b3 H7 G7 ((((x1.trans x2).trans x3).trans (x4.trans x5)).trans (x6.trans x7)) r7 h3⟩
          | _ => exact h3.elim
      | _ => exact h3.elim
  | _ => exact h3.elim
theorem b_tuple : CallR3 X (.type "tuple") bTuple := by
  refine ⟨_, call_tuple_of, fun ws vs H G Q3 Q r rv h k => ?_⟩
  simp only [bTuple] at h
  split at h
  · rename_i ws
    obtain ⟨v, rfl, e⟩ := repl1 rv
    obtain ⟨p, xs, rfl, s1, s2⟩ := rep_tup e
    exact ⟨p, xs, rfl, .inr ⟨s1, k _ H _ G .refl r e h⟩⟩
  · rename_i a
    obtain ⟨v, rfl, e⟩ := repl1 rv
    rw [rep_ref1 e]
    split at h
    · rename_i t eq
      obtain ⟨xs, s1, s2⟩ := r.lst eq
      refine ⟨_, xs, rfl, .inl ⟨.inl (.inl s1), fun l hl => ?_⟩⟩
      refine k _ _ _ G (.new hl) (r.hid hl) ?_ h
      simp only [Rep]
      exact ⟨l, xs, rfl, upd_same, s2.ext (.new hl)⟩
    · exact h.elim
  · exact h.elim
theorem at_one {l : List Nat} {c i : Nat} : StrLaws.At (S l) (S [c]) (S l).length i ↔ l[i]? = some c := by
  unfold StrLaws.At
  have := StrLaws.subAt_one (S l) c i
  rw [S_toList] at this
  exact this
theorem m_rfind : MtR3 X "str.rfind" mRfind := by
  refine ⟨_, mt_rfind, fun w v ws vs H G Q3 Q r rv rl h k => ?_⟩
  cases w with
  | str l =>
    simp only [mRfind] at h
    split at h
    · rename_i c
      obtain ⟨u, rfl, e⟩ := repl1 rl
      rw [rep_str1 rv, rep_str1 e]
      refine ⟨S l, S [c], rfl, rfl, k _ H _ G .refl r rint (h _ ?_)⟩
      unfold Txt.rfind
      rcases StrLaws.last_spec (S l) (S [c]) with ⟨e, hn⟩ | ⟨i, e, h1, h2⟩
      · rw [e]
        exact .inl ⟨rfl, fun v z => hn v (at_one.mpr z)⟩
      · rw [e]
        exact .inr ⟨i, rfl, at_one.mp h1, fun v hv z => h2 v hv (at_one.mpr z)⟩
    · exact h.elim
  | _ => exact h.elim
end
end L3

end
section
/-! L3SndH: raise of a class of the program, try .. except of one class. -/
namespace L3
open PySem PySem.Spec PyProof.Rows L2
/-- what is known of a class of the program whose instances are raised -/
structure ExCls (K : Frag) (mg : Str → Option Value) (x : Str) (C : Addr) (B newId initId : String) (bm : List Value) : Prop where
  base : ExcBaseFacts B newId initId bm
  exc : PySem.W.excIn K C bm newId = true
  mgC : mg x = some (.ref C)
  kp : PySem.W.keepIn K (.ref C) = true
  sub : PySem.W.subIn K (.ref C) (.type "BaseException") = some true
  ty : PySem.W.typeIn K (.ref C) = some (.type "type")
  te : PySem.W.exmOne K (.ref C) (.ref C) = some true
section
variable {X : Cx} {pos : Pos}
theorem ps3_raise {x m : Str} {C : Addr} {B newId initId : String} {bm : List Value} {j : Nat} {p p2 cpos : Pos} (c : ExCls X.K X.mg x C B newId initId bm) (hc : X.calm = true) (hg : Gl X x) (hdb : (x == ("__debug__" : Str)) = false := by decide) :
    PS3 X (.Raise (some (.Call (.Name x p) [.Constant (.str m) j p2] [] cpos)) none pos) (sThrow C) := fun E tk => by
  refine ⟨_, ps_raiseM hc tk c.base c.exc c.mgC c.kp (raises_own c.sub c.ty) hg hdb, fun D D3 σ H γ G he ho hs hr h3 => ?_⟩
  refine ⟨γ, G, .ref C, [], hs, hr, rfl, .inl ⟨rfl, rfl⟩, ?_⟩
  rw [← he]
  exact h3
theorem ps3_try {x : Str} {C : Addr} {B newId initId : String} {bm : List Value} {body suite : List Stmt} {b₀ : Stmt} {np pos' : Pos} {tb th : TS} (c : ExCls X.K X.mg x C B newId initId bm) (hs : X.stack = X.env :: X.outer) (hf : X.env.frame = some X.env.locals) (hg : Gl X x)
    (hb : ∀ pn xe, PassesOwn (model X.prog X.w) X.A X.env xe → PSs3 (X.tr pn xe) body tb) (hh : ∀ a pn, HotM (X.suite a pn) → PSs3 (X.suite a pn) (b₀ :: suite) th) (hdb : (x == ("__debug__" : Str)) = false := by decide) :
    PS3 X (.Try body [.ExceptHandler (some (.Name x np)) none (b₀ :: suite) pos'] [] [] pos) (sTry C tb th) := fun E tk => by
  -- the widest readings of the body and of the suite
  let wb : WX → L2.TS := fun W D σ H => ∃ γ G D3, (∀ cls d σ' H', Ext X.K H H' → lowX X.K ⟨D3.ex, H⟩ cls d σ' H' → W cls d σ' H') ∧ EndsOk X.K H H D3 D ∧ RepS X.K H H γ σ ∧ Rel X.K H G ∧ tb D3 γ G
  let ws : Addr → Value → Option Addr → L2.TS := fun _ _ _ D σ H => ∃ Z0 γ G D3, EndsOk X.K Z0 H D3 D ∧ RepS X.K Z0 H γ σ ∧ Rel X.K H G ∧ th { D3 with ex := fun _ => X0 } γ G
  refine ⟨_, ps_tryM (c := .ref C) (tb := wb) (ts := ws) hs hf ⟨hg, hdb, .inl c.mgC⟩ tk (fun W pn xe tkW hp => ⟨fun pins s σ H D I hw => ?_⟩) (fun a oe cls d pn _ _ hot => ⟨fun pins s σ H D I hw => ?_⟩), fun D D3 σ H γ G he ho hsg hr h3 => ?_⟩
  · obtain ⟨γ, G, D3, hle, hends, hr1, hr2, h3⟩ := hw
    have tk' : TakesE (X.tr pn xe) ⟨D3.ex, H⟩ := tkM_imp tkW fun cls d σ' H' z => by
      obtain ⟨γ', G', w, es, q1, q2, q3, q4, q5⟩ := z
      exact hle cls d σ' H' q1.x ⟨γ', G', w, es, q1, q2, q3, q4, q5⟩
    obtain ⟨t, p, q⟩ := hb pn xe hp ⟨D3.ex, H⟩ tk'
    exact p.run pins s σ H D I (q D D3 σ H γ G rfl hends hr1 hr2 h3)
  · obtain ⟨Z0, γ, G, D3, hends, hr1, hr2, h3⟩ := hw
    obtain ⟨t, p, q⟩ := hh a ((a, oe) :: pn) hot ⟨fun _ => X0, Z0⟩ (takes0E Z0)
    exact p.run pins s σ H D I (q D { D3 with ex := fun _ => X0 } σ H γ G rfl ⟨hends.nx, hends.rt, hends.bk, hends.ct⟩ hr1 hr2 h3)
  · refine ⟨γ, G, { D3 with ex := fun γ' w es G' => (match w with | .ref c => c = C ∧ es = [] ∧ th { D3 with ex := fun _ => X0 } γ' G' | _ => False) }, fun cls d σ' H' x' z => ?_, ?_, ⟨hsg.f, .refl⟩, hr, h3⟩
    · obtain ⟨γ', G', w, es, q1, q2, q3, q4, q5⟩ := z
      simp only at q5
      split at q5
      · obtain ⟨rfl, rfl, q5⟩ := q5
        cases q3
        refine ⟨true, c.te, fun _ a _ => ⟨E.h0, γ', G', D3, ho.ext x', ⟨q1.f, hsg.x.trans x'⟩, q2, q5⟩, fun z => nomatch z⟩
      · exact q5.elim
    · exact ⟨fun σ' H' γ' G' y r q z => ho.nx σ' H' γ' G' y ⟨r.f, hsg.x.trans y⟩ q z, ho.rt, fun σ' H' γ' G' y r q z => ho.bk σ' H' γ' G' y ⟨r.f, hsg.x.trans y⟩ q z, fun σ' H' γ' G' y r q z => ho.ct σ' H' γ' G' y ⟨r.f, hsg.x.trans y⟩ q z⟩
end
end L3

end
section
/-! L3SndI: instances: fields, methods, making; calls of what a slot holds. -/
namespace L3
open PySem PySem.Spec PyProof.Rows L2
section
variable {K : Frag} {H : Hp}
theorem repF_get : ∀ {ns : List (List Nat)} {ws : List W} {fs : List (Str × V)} {i : Nat} {n : List Nat} {w : W}, fs.map (·.1) = (ns.map S).take ws.length → RepL K H ws (fs.map (·.2)) → ns.Nodup → ns[i]? = some n → ws[i]? = some w →
    ∃ v, fs.lookup (S n) = some v ∧ Rep K H w v
  | [], ws, fs, i, n, w, _, _, _, e, _ => by simp at e
  | m :: ns, [], fs, i, n, w, _, _, _, _, e => by simp at e
  | m :: ns, u :: ws, [], i, n, w, h, _, _, _, _ => by simp at h
  | m :: ns, u :: ws, f :: fs, 0, n, w, h, r, nd, e1, e2 => by
    simp only [List.getElem?_cons_zero, Option.some.injEq] at e1 e2
    subst e1 e2
    simp only [List.map_cons, List.length_cons, List.take_succ_cons, List.cons.injEq] at h
    simp only [List.map_cons, RepL] at r
    obtain ⟨v, r', e, a, b⟩ := r
    injection e with e3 e4
    obtain ⟨x, y⟩ := f
    simp only at h e3
    refine ⟨v, ?_, a⟩
    rw [List.lookup_cons, h.1, beq_self_eq_true, ← e3]
  | m :: ns, u :: ws, f :: fs, i + 1, n, w, h, r, nd, e1, e2 => by
    simp only [List.getElem?_cons_succ] at e1 e2
    simp only [List.map_cons, List.length_cons, List.take_succ_cons, List.cons.injEq] at h
    simp only [List.map_cons, RepL] at r
    obtain ⟨v, r', e, a, b⟩ := r
    injection e with e3 e4
    subst e4
    obtain ⟨x, y⟩ := f
    simp only at h e3
    obtain ⟨v', g1, g2⟩ := repF_get h.2 b (List.nodup_cons.mp nd).2 e1 e2
    refine ⟨v', ?_, g2⟩
    rw [List.lookup_cons]
    have hne : (S n == x) = false := by
      rw [h.1]
      refine beq_eq_false_iff_ne.mpr fun z => ?_
      have := S_inj z
      subst this
      exact (List.nodup_cons.mp nd).1 (List.mem_of_getElem? e1)
    rw [hne]
    exact g1
theorem repF_no : ∀ {ns : List (List Nat)} {ws : List W} {fs : List (Str × V)} {m : Str}, fs.map (·.1) = (ns.map S).take ws.length → m ∉ ns.map S → fs.lookup m = none
  | ns, ws, [], m, h, hm => rfl
  | [], ws, f :: fs, m, h, hm => by simp at h
  | n :: ns, [], f :: fs, m, h, hm => by simp at h
  | n :: ns, u :: ws, f :: fs, m, h, hm => by
    simp only [List.map_cons, List.length_cons, List.take_succ_cons, List.cons.injEq] at h
    obtain ⟨x, y⟩ := f
    simp only at h
    simp only [List.map_cons, List.mem_cons, not_or] at hm
    rw [List.lookup_cons]
    have hne : (m == x) = false := beq_eq_false_iff_ne.mpr (by rw [h.1]; exact hm.1)
    rw [hne]
    exact repF_no h.2 hm.2
theorem repF_set : ∀ {ns : List (List Nat)} {ws ws' : List W} {fs : List (Str × V)} {i : Nat} {n : List Nat} {w : W} {v : V}, fs.map (·.1) = (ns.map S).take ws.length → RepL K H ws (fs.map (·.2)) → ns.Nodup → ns[i]? = some n → setF ws i w = some ws' → Rep K H w v →
    (putF (S n) v fs).map (·.1) = (ns.map S).take ws'.length ∧ RepL K H ws' ((putF (S n) v fs).map (·.2)) ∧ ws'.length ≤ ns.length ∨ ws.length > ns.length
  | [], ws, ws', fs, i, n, w, v, _, _, _, e, _, _ => by simp at e
  | m :: ns, [], ws', [], 0, n, w, v, h, r, nd, e1, e2, rw' => by
    simp only [List.getElem?_cons_zero, Option.some.injEq] at e1
    subst e1
    simp only [setF_nil, Option.some.injEq] at e2
    subst e2
    exact .inl ⟨by simp [putF], by simp only [putF, List.map_cons, List.map_nil]; exact .one rw', by simp⟩
  | m :: ns, [], ws', f :: fs, i, n, w, v, h, r, nd, e1, e2, rw' => by simp at h
  | m :: ns, [], ws', [], i + 1, n, w, v, h, r, nd, e1, e2, rw' => by simp [setF] at e2
  | m :: ns, u :: ws, ws', [], i, n, w, v, h, r, nd, e1, e2, rw' => by simp at h
  | m :: ns, u :: ws, ws', f :: fs, 0, n, w, v, h, r, nd, e1, e2, rw' => by
    simp only [List.getElem?_cons_zero, Option.some.injEq] at e1
    subst e1
    simp only [setF_zero, Option.some.injEq] at e2
    subst e2
    simp only [List.map_cons, List.length_cons, List.take_succ_cons, List.cons.injEq] at h
    simp only [List.map_cons, RepL] at r
    obtain ⟨v', r', e, a, b⟩ := r
    injection e with e3 e4
    subst e4
    obtain ⟨x, y⟩ := f
    simp only at h e3
    by_cases hl : (u :: ws).length > (m :: ns).length
    · exact .inr hl
    · refine .inl ⟨?_, ?_, by simp at hl ⊢; omega⟩
      · unfold putF
        rw [if_pos h.1]
        simp only [List.map_cons, List.length_cons, List.take_succ_cons, h.1, h.2]
      · unfold putF
        rw [if_pos h.1]
        exact .cons rw' b
  | m :: ns, u :: ws, ws', f :: fs, i + 1, n, w, v, h, r, nd, e1, e2, rw' => by
    simp only [List.getElem?_cons_succ] at e1
    simp only [setF_succ, Option.map_eq_some_iff] at e2
    obtain ⟨ws2, e2, rfl⟩ := e2
    simp only [List.map_cons, List.length_cons, List.take_succ_cons, List.cons.injEq] at h
    simp only [List.map_cons, RepL] at r
    obtain ⟨v', r', e, a, b⟩ := r
    injection e with e3 e4
    subst e4
    obtain ⟨x, y⟩ := f
    simp only at h e3
    have hne : ¬ (x = S n) := by
      rw [h.1]
      intro z
      have := S_inj z
      subst this
      exact (List.nodup_cons.mp nd).1 (List.mem_of_getElem? e1)
    rcases repF_set h.2 b (List.nodup_cons.mp nd).2 e1 e2 rw' with ⟨g1, g2, g3⟩ | g
    · refine .inl ⟨?_, ?_, by simp; omega⟩
      · unfold putF
        rw [if_neg hne]
        simp only [List.map_cons, List.length_cons, List.take_succ_cons, h.1, g1]
      · unfold putF
        rw [if_neg hne]
        simp only [List.map_cons]
        exact .cons (by rw [e3]; exact a) g2
    · exact .inr (by simp at g ⊢; omega)
end
theorem asIns_ok {K : Frag} {H : Hp} {G : Gh} {C : Addr} {ns : List (List Nat)} {x : W} {v : V} {Q : Nat → List W → Prop} (r : Rel K H G) (rv : Rep K H x v) (h : asIns C ns x G Q) :
    ∃ (p dx : Addr) (ws : List W) (fs : List (Str × V)), x = .ref p ∧ v = .ref p ∧ G p = some (.ins C ns ws) ∧ H p = some (.ins C dx fs) ∧ RepF K H ns ws fs ∧ Q p ws := by
  cases x with
  | ref p =>
    simp only [asIns] at h
    split at h
    · rename_i C' ns' ws e
      obtain ⟨rfl, rfl, h⟩ := h
      obtain ⟨dx, fs, e1, e2⟩ := r p _ e
      exact ⟨p, dx, ws, fs, rfl, rep_ref1 rv, e, e1, e2, h⟩
    · exact h.elim
  | _ => exact h.elim
section
variable {X : Cx} {e o value : Expr} {f : Str} {pos pos' tpos apos : Pos} {te to tv : TE} {C : Addr} {ns : List (List Nat)} {i : Nat} {n : List Nat}
theorem pe3_fld (c : Cls X.K C) (hn : NoAttr X.K C f) (hd : ns.Nodup) (hi : (ns[i]?).map S = some f) (he : PE3 X e te) (hb : attributeBase e f X.env (eval e X.env) = eval e X.env := by rfl) : PE3 X (.Attribute e f pos) (eFld C ns i te) := fun E tk => by
  obtain ⟨t, p, q⟩ := he E tk
  refine ⟨_, pe_fld p hb, fun σ H γ G Q3 Q hs hr h3 k => ?_⟩
  refine q σ H γ G _ _ hs hr h3 fun v H1 w G1 x1 r1 rv h3 => ?_
  obtain ⟨p, dx, ws, fs, rfl, rfl, e1, e2, ⟨f1, f2, f3, f4⟩, h3⟩ := asIns_ok r1 rv h3
  rw [nthW_eq] at h3
  cases ew : ws[i]? with
  | none => rw [ew] at h3; exact h3.elim
  | some w =>
    rw [ew] at h3
    obtain ⟨n, en, rfl⟩ := Option.map_eq_some_iff.mp hi
    obtain ⟨v, g1, g2⟩ := repF_get f1 f2 hd en ew
    exact ⟨p, C, dx, fs, v, rfl, e2, c, hn, g1, k v H1 w G1 x1 r1 g2 h3⟩
theorem few_of {K : Frag} {H : Hp} {ws : List W} {fs : List (Str × V)} (f1 : fs.map (·.1) = (ns.map S).take ws.length) (hl : ns.length < 1000) : fs.length < 1000 := by
  have := congrArg List.length f1
  simp at this
  omega
theorem ps3_fld (c : Cls X.K C) (hn : NoAttr X.K C f) (hd : ns.Nodup) (hl : ns.length < 1000) (hi : (ns[i]?).map S = some f) (ho : PE3 X o to) (hv : PE3 X value tv) (hsw : swapsWith value (some (.Attribute o f pos')) pos.line X.env = pure false := by rfl) :
    PS3 X (.Assign [.Attribute o f pos'] value pos) (sFld C ns i to tv) := fun E tk => by
  obtain ⟨t, p1, q1⟩ := hv E tk
  obtain ⟨u, p2, q2⟩ := ho E tk
  refine ⟨_, ps_fld p2 p1 hsw, fun D D3 σ H γ G hE oe hs hr h3 => ?_⟩
  cases E; dsimp only at hE; subst hE
  refine q1 σ H γ G _ _ hs hr h3 fun v H1 w G1 x1 r1 rv h3 => ?_
  refine q2 σ H1 γ G1 _ _ (hs.ext x1) r1 h3 fun v2 H2 w2 G2 x2 r2 rv2 h3 => ?_
  obtain ⟨p, dx, ws, fs, rfl, rfl, e1, e2, ⟨f1, f2, f3, f4⟩, h3⟩ := asIns_ok r2 rv2 h3
  cases ew : setF ws i w with
  | none => rw [ew] at h3; exact h3.elim
  | some ws' =>
    rw [ew] at h3
    obtain ⟨n, en, rfl⟩ := Option.map_eq_some_iff.mp hi
    have m : Mut (H2 p) := by rw [e2]; trivial
    have y := x1.trans x2
    refine ⟨p, C, dx, fs, rfl, e2, c, hn, few_of (K := X.K) (H := H2) f1 hl, ?_⟩
    rcases repF_set f1 f2 hd en ew (rv.ext x2) with ⟨g1, g2, g3⟩ | g
    · exact oe.nx σ _ γ _ (y.trans (.write m)) (hs.ext (y.trans (.write m))) (r2.write (o := .ins C ns ws') m ⟨dx, _, upd_same, g1, g2.ext (.write m), g3, hd⟩) h3
    · omega
theorem ps3_fldaug {op : Operator} {r3 : R2} (c : Cls X.K C) (hn : NoAttr X.K C f) (hd : ns.Nodup) (hl : ns.length < 1000) (hop : OpR3 X (inplaceOp op) r3) (ho : PE3 X o to) (hv : PE3 X value tv) (hi : (ns[i]?).map S = some f := by rfl) :
    PS3 X (.AugAssign (.Attribute o f tpos) op value pos) (sFldAug C ns i r3 to tv) := fun E tk => by
  obtain ⟨r, h1, h2⟩ := hop
  obtain ⟨t, p1, q1⟩ := hv E tk
  obtain ⟨u, p2, q2⟩ := ho E tk
  have hin : InOp X op r := fun pins s σ H x y u v Q I rx ry h => h1 pins s σ H x y u v Q I rx ry h
  refine ⟨_, ps_fldaug p2 p1 hin, fun D D3 σ H γ G hE oe hs hr h3 => ?_⟩
  cases E; dsimp only at hE; subst hE
  refine q2 σ H γ G _ _ hs hr h3 fun v2 H2 w2 G2 x2 r2 rv2 h3 => ?_
  obtain ⟨p, dx, ws, fs, rfl, rfl, e1, e2, ⟨f1, f2, f3, f4⟩, h3⟩ := asIns_ok r2 rv2 h3
  obtain ⟨n, en, rfl⟩ := Option.map_eq_some_iff.mp hi
  rw [nthW_eq] at h3
  cases ew : ws[i]? with
  | none => rw [ew] at h3; exact h3.elim
  | some w =>
    rw [ew] at h3
    obtain ⟨v, g1, g2⟩ := repF_get f1 f2 hd en ew
    refine ⟨p, C, dx, fs, v, rfl, e2, c, hn, g1, ?_⟩
    refine q1 σ H2 γ G2 _ _ (hs.ext x2) r2 h3 fun v3 H3 w3 G3 x3 r3' rv3 h3 => ?_
    refine h2 _ _ _ _ _ _ _ _ r3' (g2.ext x3) rv3 h3 fun v4 H4 w4 G4 x4 r4 rv4 h3 => ?_
    obtain ⟨p', dx', ws', fs', e0, _, e1', e2', ⟨f1', f2', f3', f4'⟩, h3⟩ := asIns_ok (v := .ref p) r4 (by simp only [Rep]) h3
    cases e0
    cases ew' : setF ws' i w4 with
    | none => rw [ew'] at h3; exact h3.elim
    | some ws2 =>
      rw [ew'] at h3
      have m : Mut (H4 p) := by rw [e2']; trivial
      have y := (x2.trans x3).trans x4
      refine ⟨dx', fs', e2', few_of (K := X.K) (H := H4) f1' hl, ?_⟩
      rcases repF_set f1' f2' hd en ew' rv4 with ⟨g1, g2, g3⟩ | g
      · exact oe.nx σ _ γ _ (y.trans (.write m)) (hs.ext (y.trans (.write m))) (r4.write (o := .ins C ns ws2) m ⟨dx', _, upd_same, g1, g2.ext (.write m), g3, hd⟩) h3
      · omega
end
/-! ### methods, making -/
section
variable {X : Cx} {k : Nat} {f C : Addr} {fd : FuncData} {ps : List Str} {sp : Sp} {x m : Str} {p pos apos : Pos} {e o : Expr} {es : List Expr} {te to : TE} {ta : TA} {ns : List (List Nat)} {Wx : WX}
def tMt (K : Frag) (C : Addr) (m : Str) (sp : L2.Sp) (Wx : WX) (to : L2.TE) (t : L2.TA) : L2.TE := fun σ H Q => to σ H fun x H1 => ∃ a dx fs, x = .ref a ∧ H1 a = some (.ins C dx fs) ∧ fs.lookup m = none ∧
  t σ H1 fun vs H2 => ∃ E : XK, (∀ cls d H', Ext K H2 H' → E cls d H' → Wx cls d σ H') ∧ sp (x :: vs) H2 Q E
theorem met_sim {E : EX} {to0 : L2.TE} {t : L2.TA} (hm : m ∉ ns.map S) (q1 : SimE X.K E.h0 to0 fun γ G Q => to γ G (E γ) Q) (q2 : SimA X.K E.h0 t fun γ G Q => ta γ G (E γ) Q) :
    SimE X.K E.h0 (tMt X.K C m (low X.K sp) (lowX X.K E) to0 t) fun γ G Q => eMet C ns sp to ta γ G (E γ) Q := by
  intro σ H γ G Q3 Q hs hr h3 k
  refine q1 σ H γ G _ _ hs hr h3 fun v H1 w G1 x1 r1 rv h3 => ?_
  obtain ⟨p, dx, ws, fs, rfl, rfl, e1, e2, ⟨f1, f2, f3, f4⟩, h3⟩ := asIns_ok r1 rv h3
  refine ⟨p, dx, fs, rfl, e2, repF_no f1 hm, ?_⟩
  refine q2 σ H1 γ G1 _ _ (hs.ext x1) r1 h3 fun vs H2 ws G2 x2 r2 rv2 h3 => ?_
  refine ⟨fun cls d H' => ∃ w es G', Rel X.K H' G' ∧ cls = clsV w ∧ exRep X.K H' d es ∧ E γ w es G', fun cls d H' x ⟨w, es, G', a, b, c, z⟩ => ⟨γ, G', w, es, (hs.ext (x1.trans x2)).ext x, a, b, c, z⟩, .ref p :: ws, G2, Q3, E γ, .cons rref rv2, r2, h3, fun v H' w G' x => k v H' w G' ((x1.trans x2).trans x), fun d H' w es G' a b z => ⟨w, es, G', a, rfl, b, z⟩⟩
theorem pe3_met {pl : Sem Bool} (c : Cls X.K C) (hm : Meth X.K C m f) (hno : m ∉ ns.map S) (F : Ok3 X.prog X.w X.K X.mg X.base k f fd ps sp) (hr : Rm k X.A) (hb : Binds X.K fd ps []) (ho : PE3 X o to) (ha : PA3 X (e :: es) ta)
    (hst : starEach (e :: es) X.env = (false, eval e X.env) :: starEach es X.env := by rfl) (hpl : (backTo pos (starEach es X.env)).any (·.1) = false := by rfl)
    (ht : eval (.Call (.Attribute o m apos) (e :: es) [] pos) X.env = (do
      let ov ← eval o X.env
      standAt apos.atName
      let (f, first) ← holding [ov] (getMethod ov m pl)
      callWith pos f first (backTo pos (starEach (e :: es) X.env)) (backToKw pos (keywordEach [] X.env))) := by rfl) :
    PE3 X (.Call (.Attribute o m apos) (e :: es) [] pos) (eMet C ns sp to ta) := fun E tk => by
  obtain ⟨t1, p1, q1⟩ := ho E tk
  obtain ⟨t2, p2, q2⟩ := ha E tk
  refine ⟨tMt X.K C m (low X.K sp) (lowX X.K E) t1 t2, ⟨fun pins s σ H Q I h => ?_⟩, met_sim hno q1 q2⟩
  refine PySem.W.methodCall_KW (pl := pl) (thn (p1.run pins s σ H _ I h) fun u s1 ⟨x, H1, I1, rx, a, dx, fs, ex, ea, l, q⟩ => ?_) ht
  subst ex
  obtain rfl : u = Value.ref a := rx
  refine getmeth_ok I1 ea c hm l ?_
  refine PySem.W.callWith_K (first := [.ref a]) (h₀ := X.base) I.ok.mod.kin hm.kp (thn (p2.run pos pins s1 σ H1 _ I1 q) fun us s2 ⟨vs, H2, I2, r, XK', hE, q2⟩ => ⟨I2.kIn, ?_⟩) hst hpl
  exact run3 (us := .ref a :: us) (vs := .ref a :: vs) F hr hb tk hE I2 (.cons rfl r) q2
theorem pe3_met0 {pl : Sem Bool} (c : Cls X.K C) (hm : Meth X.K C m f) (hno : m ∉ ns.map S) (F : Ok3 X.prog X.w X.K X.mg X.base k f fd ps sp) (hr : Rm k X.A) (hb : Binds X.K fd ps []) (ho : PE3 X o to)
    (ht : eval (.Call (.Attribute o m apos) [] [] pos) X.env = (do
      let ov ← eval o X.env
      standAt apos.atName
      let (f, first) ← holding [ov] (getMethod ov m pl)
      callWith pos f first (backTo pos (starEach [] X.env)) (backToKw pos (keywordEach [] X.env))) := by rfl) :
    PE3 X (.Call (.Attribute o m apos) [] [] pos) (eMet C ns sp to aNil) := fun E tk => by
  obtain ⟨t1, p1, q1⟩ := ho E tk
  refine ⟨tMt X.K C m (low X.K sp) (lowX X.K E) t1 tNil, ⟨fun pins s σ H Q I h => ?_⟩, met_sim hno q1 fun σ H γ G Q3 Q hs hr h3 k => k [] H [] G .refl hr .nil h3⟩
  refine PySem.W.methodCall_KW (pl := pl) (thn (p1.run pins s σ H _ I h) fun u s1 ⟨x, H1, I1, rx, a, dx, fs, ex, ea, l, q⟩ => ?_) ht
  subst ex
  obtain rfl : u = Value.ref a := rx
  refine getmeth_ok I1 ea c hm l ?_
  obtain ⟨XK', hE, q⟩ := q
  exact PySem.W.callWith_K0 (first := [.ref a]) I1.kIn hm.kp (run3 (us := [.ref a]) (vs := [.ref a]) F hr hb tk hE I1 (.cons rfl .nil) q)
/-- a call of what slot i holds -/
theorem pe3_callV {i : Nat} (F : Ok3 X.prog X.w X.K X.mg X.base k f fd ps sp) (hr : Rm k X.A) (hN : X.N[i]? = some x) (hv : Vis X.env.scope x) (hk : PySem.W.keepIn X.K (.ref f) = true) (hb : Binds X.K fd ps []) (ha : PA3 X (e :: es) ta)
    (hdb : (x == ("__debug__" : Str)) = false := by decide) (hcd : (x == ("__classdict__" : Str)) = false := by decide)
    (he : starEach (e :: es) X.env = (false, eval e X.env) :: starEach es X.env := by rfl) (hpl : (backTo pos (starEach es X.env)).any (·.1) = false := by rfl) :
    PE3 X (.Call (.Name x p) (e :: es) [] pos) (eCallV f sp i ta) := fun E tk => by
  obtain ⟨t, p1, q⟩ := ha E tk
  refine ⟨fun σ H Q => σ[i]? = some (some (.ref f)) ∧ tAt X.K (low X.K sp) (lowX X.K E) t σ H Q, ⟨fun pins s σ H Q I h => ?_⟩, fun σ H γ G Q3 Q hs hr h3 k => ?_⟩
  · obtain ⟨hs, ht⟩ := h
    refine wpAny_Call_Name_kw (thn ((pe_var (pos := p) hN hv hdb hcd).run pins s σ H (fun v H1 => v = .ref f ∧ H1 = H) I ⟨.ref f, hs, rfl, rfl⟩) fun u s1 ⟨v, H1, I1, r1, q1⟩ => ?_)
    obtain ⟨rfl, rfl⟩ := q1
    cases r1
    refine PySem.W.callWith_K (h₀ := X.base) I.ok.mod.kin hk (thn (p1.run pos pins s1 σ _ _ I1 ht) fun us s2 ⟨vs, H2, I2, r, XK', hE, q2⟩ => ⟨I2.kIn, ?_⟩) he hpl
    exact run3 F hr hb tk hE I2 r q2
  · obtain ⟨eg, h3⟩ := h3
    obtain ⟨v, e1, e2⟩ := hs.get eg
    rw [rep_ref1 e2] at e1
    exact ⟨e1, at_sim q σ H γ G Q3 Q hs hr h3 k⟩
/-- the new instance is made and its __init__ runs -/
theorem run_make3 {pins : List (Addr × Obj)} {σ : St} {H : Hp} {s : Shared} {Q : VK} {us : List Value} {vs : List V} {sp : L2.Sp} {m : Nat} (M : Mk X.K C f) (F : FnR X.prog X.w X.K X.mg X.base (CXM X.prog X.w) k f fd ps sp) (hk : 26 ≤ m ∧ 2 * k + 2 ≤ m) (hr : Rm m X.A) (hb : Binds X.K fd ps [])
    (I : Inv X pins σ H s) (r : Vals vs us)
    (h : ∀ x dx, H x = none → H dx = none → dx ≠ x → sp (.ref x :: vs) (upd (upd H dx (.own x)) x (.ins C dx [])) (fun v H2 => v = .non ∧ Q (.ref x) H2) (fun _ _ _ => False)) :
    wpAny (model X.prog X.w) X.A (call (.ref C) us) (EP X pins σ Q) X.xe s := by
  refine run_make M (F.toOk (j := max 13 (k / 2 + 7)) (by omega) (by omega)) (hr.room (by omega) (by omega)) hb .nil (E := fun _ _ _ => False) (fun pins σ H s e s' I z => ?_) I r (by simpa using h)
  obtain ⟨_, _, _, _, _, _, _, _, _, _, _, _, z⟩ := z
  exact z.elim
def tMk3 (C : Addr) (sp : L2.Sp) (t : L2.TA) : L2.TE := fun σ H Q => t σ H fun vs H1 => ∀ x dx, H1 x = none → H1 dx = none → dx ≠ x → sp (.ref x :: vs) (upd (upd H1 dx (.own x)) x (.ins C dx [])) (fun v H2 => v = .non ∧ Q (.ref x) H2) (fun _ _ _ => False)
theorem make_sim {E : EX} {t : L2.TA} (hd : ns.Nodup) (q : SimA X.K E.h0 t fun γ G Q => ta γ G (E γ) Q) : SimE X.K E.h0 (tMk3 C (low X.K sp) t) fun γ G Q => eMakeX C ns sp ta γ G (E γ) Q := by
  intro σ H γ G Q3 Q hs hr h3 k
  refine q σ H γ G _ _ hs hr h3 fun vs H1 ws G1 x1 r1 rv h3 => fun x dx hx hdx ne => ?_
  have y1 : Ext X.K H1 (upd H1 dx (.own x)) := .new hdx
  have hx2 : upd H1 dx (.own x) x = none := by rw [upd_ne ne.symm]; exact hx
  have y2 : Ext X.K (upd H1 dx (.own x)) (upd (upd H1 dx (.own x)) x (.ins C dx [])) := .new hx2
  have rh := (r1.hid (ho := .own x) hdx).new (ho := .ins C dx []) (o := .ins C ns []) hx2 ⟨dx, [], upd_same, by simp, .nil, by simp, hd⟩
  refine ⟨.ref x :: ws, _, fun v G2 => v = .non ∧ Q3 (.ref x) G2, X0, .cons rref (rv.ext (y1.trans y2)), rh, h3 x (r1.free hx), fun v H' w G' x' r' rv' q' => ?_, fun _ _ _ _ _ _ _ z => z.elim⟩
  obtain ⟨rfl, q'⟩ := q'
  exact ⟨rep_non1 rv', k _ H' _ G' ((x1.trans (y1.trans y2)).trans x') r' rref q'⟩
theorem pe3_make (M : Mk X.K C f) (hd : ns.Nodup) (F : Ok3 X.prog X.w X.K X.mg X.base k f fd ps sp) {mm : Nat} (hr : (26 ≤ mm ∧ 2 * k + 2 ≤ mm) ∧ Rm mm X.A) (hg : Gl X x) (hm : X.mg x = some (.ref C)) (hb : Binds X.K fd ps []) (ha : PA3 X (e :: es) ta)
    (hdb : (x == ("__debug__" : Str)) = false := by decide) (he : starEach (e :: es) X.env = (false, eval e X.env) :: starEach es X.env := by rfl) (hpl : (backTo pos (starEach es X.env)).any (·.1) = false := by rfl) :
    PE3 X (.Call (.Name x p) (e :: es) [] pos) (eMakeX C ns sp ta) := fun E tk => by
  obtain ⟨t, p1, q⟩ := ha E tk
  refine ⟨_, ⟨fun pins s σ H Q I h => wpAny_Call_Name_kw (ld_glob I hg hm ?_ hdb)⟩, make_sim hd q⟩
  refine PySem.W.callWith_K (h₀ := X.base) I.ok.mod.kin M.kp (thn (p1.run pos pins s σ H _ I h) fun us s1 ⟨vs, H1, I1, r, q⟩ => ⟨I1.kIn, ?_⟩) he hpl
  exact run_make3 M F hr.1 hr.2 hb I1 r q
theorem pe3_make0 (M : Mk X.K C f) (hd : ns.Nodup) (F : Ok3 X.prog X.w X.K X.mg X.base k f fd ps sp) {mm : Nat} (hr : (26 ≤ mm ∧ 2 * k + 2 ≤ mm) ∧ Rm mm X.A) (hg : Gl X x) (hm : X.mg x = some (.ref C)) (hb : Binds X.K fd ps [])
    (hdb : (x == ("__debug__" : Str)) = false := by decide) : PE3 X (.Call (.Name x p) [] [] pos) (eMakeX C ns sp aNil) := fun E tk => by
  refine ⟨tMk3 C (low X.K sp) tNil, ⟨fun pins s σ H Q I h => wpAny_Call_Name_kw (ld_glob I hg hm ?_ hdb)⟩, make_sim hd fun σ H γ G Q3 Q hs hr h3 k => k [] H [] G .refl hr .nil h3⟩
  exact PySem.W.callWith_K0 I.kIn M.kp (run_make3 (us := []) M F hr.1 hr.2 hb I .nil h)
end
end L3

end
section
/-! L3SndJ: dicts with keys of any kind: subscripts, in, get, pop, setdefault, list. -/
namespace L3
open PySem PySem.Spec PyProof.Rows L2
section
variable {K : Frag} {H : Hp} {κ : Type} [DecidableEq κ] {f : κ → W} {y w : W} {ky : κ} {v : V}
theorem look_repG (hk : ∀ a, keq (f a) y = decide (a = ky)) : ∀ {kvs : List (W × W)} {ks : List (κ × V)}, RepKV f K H kvs ks → (match look kvs y with | some w => ∃ v, valV ks ky = some v ∧ Rep K H w v | none => valV ks ky = none)
  | [], _, r => by cases r; rfl
  | p :: kvs, _, r => by
    obtain ⟨q, r', rfl, e, rv, rr⟩ := r
    have ih := look_repG hk rr
    unfold look
    rw [e, hk]
    by_cases h : q.1 = ky
    · rw [decide_eq_true h, if_pos rfl, valV_pos h]
      exact ⟨q.2, rfl, rv⟩
    · rw [decide_eq_false h, if_neg (by decide), valV_neg h]
      exact ih
theorem look_someG (hk : ∀ a, keq (f a) y = decide (a = ky)) {kvs : List (W × W)} {ks : List (κ × V)} (r : RepKV f K H kvs ks) (e : look kvs y = some w) : ∃ v, valV ks ky = some v ∧ Rep K H w v := by
  have h := look_repG hk r
  rw [e] at h
  exact h
theorem look_noneG (hk : ∀ a, keq (f a) y = decide (a = ky)) {kvs : List (W × W)} {ks : List (κ × V)} (r : RepKV f K H kvs ks) (e : look kvs y = none) : valV ks ky = none := by
  have h := look_repG hk r
  rw [e] at h
  exact h
theorem has_repG (hk : ∀ a, keq (f a) y = decide (a = ky)) {kvs : List (W × W)} {ks : List (κ × V)} (r : RepKV f K H kvs ks) : has kvs y = (valV ks ky).isSome := by
  unfold has
  cases e : look kvs y with
  | none => rw [look_noneG hk r e]; rfl
  | some w => obtain ⟨v, q, _⟩ := look_someG hk r e; rw [q]; rfl
theorem map_repG (hk : ∀ a, keq (f a) y = decide (a = ky)) (rw' : Rep K H w v) : ∀ {kvs : List (W × W)} {ks : List (κ × V)}, RepKV f K H kvs ks →
    RepKV f K H (kvs.map fun p => if keq p.1 y = true then (p.1, w) else p) (ks.map fun kv => if kv.1 = ky then (kv.1, v) else kv)
  | [], _, r => by cases r; rfl
  | p :: kvs, _, r => by
    obtain ⟨q, r', rfl, e, rv, rr⟩ := r
    refine ⟨_, _, rfl, ?_, ?_, map_repG hk rw' rr⟩
    · dsimp only
      rw [e, hk]
      by_cases h : q.1 = ky
      · rw [decide_eq_true h, if_pos rfl, if_pos h]
      · rw [decide_eq_false h, if_neg (by decide), if_neg h]; exact e
    · dsimp only
      rw [e, hk]
      by_cases h : q.1 = ky
      · rw [decide_eq_true h, if_pos rfl, if_pos h]; exact rw'
      · rw [decide_eq_false h, if_neg (by decide), if_neg h]; exact rv
theorem put_repG (hk : ∀ a, keq (f a) y = decide (a = ky)) (hy : y = f ky) (rw' : Rep K H w v) {kvs : List (W × W)} {ks : List (κ × V)} (r : RepKV f K H kvs ks) : RepKV f K H (putD kvs y w) (putK ks ky v) := by
  unfold putD putK
  rw [has_repG hk r, valV_any]
  split
  · exact map_repG hk rw' r
  · exact snoc_rep hy rw' r
theorem drop_repG (hk : ∀ a, keq (f a) y = decide (a = ky)) : ∀ {kvs : List (W × W)} {ks : List (κ × V)}, RepKV f K H kvs ks → RepKV f K H (dropD kvs y) (dropK ks ky)
  | [], _, r => by cases r; rfl
  | p :: kvs, _, r => by
    obtain ⟨q, r', rfl, e, rv, rr⟩ := r
    have ih := drop_repG hk rr
    unfold dropD dropK at ih ⊢
    rw [List.filter_cons, List.filter_cons, e, hk]
    by_cases h : q.1 = ky
    · rw [decide_eq_true h, if_neg (by decide), if_neg (by simp [h])]
      exact ih
    · rw [decide_eq_false h, if_pos (by decide), if_pos (by simp [h])]
      exact ⟨q, _, rfl, e, rv, ih⟩
end
/-! ### keys that are tuples -/
abbrev tkW (k : List Key) : W := .tup (k.map keyW)
def keysOf : W → List Key
  | .tup ws => ws.map keyOf
  | _ => []
theorem keq_tk {y : W} (h : keyT y = true) (a : List Key) : keq (tkW a) y = decide (a = keysOf y) := by
  cases y with
  | tup ws =>
    show keqL (a.map keyW) ws = decide (a = ws.map keyOf)
    have h' : ws.all key1 = true := h
    clear h
    induction ws generalizing a with
    | nil => cases a with
      | nil => rfl
      | cons x a => exact (decide_eq_false (fun z => nomatch z)).symm
    | cons w ws ih =>
      rw [List.all_cons, Bool.and_eq_true] at h'
      cases a with
      | nil => exact (decide_eq_false (fun z => nomatch z)).symm
      | cons x a =>
        show (keq (keyW x) w && keqL (a.map keyW) ws) = _
        rw [keq_keyW x h'.1, ih a h'.2, Bool.eq_iff_iff, Bool.and_eq_true, decide_eq_true_iff, decide_eq_true_iff, decide_eq_true_iff, List.map_cons, List.cons.injEq]
  | _ => cases h
theorem tk_keys {y : W} (h : keyT y = true) : y = tkW (keysOf y) := by
  cases y with
  | tup ws =>
    show W.tup ws = .tup ((ws.map keyOf).map keyW)
    have h' : ws.all key1 = true := h
    congr 1
    clear h
    induction ws with
    | nil => rfl
    | cons w ws ih =>
      rw [List.all_cons, Bool.and_eq_true] at h'
      rw [List.map_cons, List.map_cons, keyOf_keyW h'.1, ← ih h'.2]
  | _ => cases h
theorem rep_keys {K : Frag} {H : Hp} : ∀ {ws : List W} {vs : List V}, ws.all key1 = true → RepL K H ws vs → vs = (ws.map keyOf).map kV
  | [], _, _, r => by simp only [RepL] at r; subst r; rfl
  | w :: ws, _, h, r => by
    simp only [RepL] at r
    obtain ⟨v, r', rfl, a, b⟩ := r
    rw [List.all_cons, Bool.and_eq_true] at h
    rw [List.map_cons, List.map_cons, key_rep a h.1, rep_keys h.2 b]
theorem keyT_rep {K : Frag} {H : Hp} {y : W} {u : V} (r : Rep K H y u) (h : keyT y = true) : ∃ b, u = .ref b ∧ H b = some (.tup ((keysOf y).map kV)) := by
  cases y with
  | tup ws =>
    obtain ⟨b, xs, rfl, h1, h2⟩ := rep_tupS r
    refine ⟨b, rfl, ?_⟩
    rw [h1, rep_keys h h2]
    rfl
  | _ => cases h
/-- what a dict of G answers at a key -/
theorem dget_of {K : Frag} {H : Hp} {G : Gh} {x y : W} {v u : V} {Q : List (W × W) → Prop} (r : Rel K H G) (rv : Rep K H x v) (ru : Rep K H y u) (h : dictOf x G y Q) :
    ∃ (a : Addr) (kvs : List (W × W)) (ov : Option V), x = .ref a ∧ v = .ref a ∧ DGet H a u ov ∧ Q kvs ∧ (match look kvs y with | some w => ∃ z, ov = some z ∧ Rep K H w z | none => ov = none) := by
  cases x with
  | ref a =>
    have fin : ∀ {κ : Type} [DecidableEq κ] {f : κ → W} {ky : κ} {kvs : List (W × W)} {ks : List (κ × V)}, (∀ a, keq (f a) y = decide (a = ky)) → RepKV f K H kvs ks → (match look kvs y with | some w => ∃ z, valV ks ky = some z ∧ Rep K H w z | none => valV ks ky = none) := fun hk r => look_repG hk r
    simp only [dictOf] at h
    split at h
    · rename_i kvs e
      obtain ⟨ks, s1, s2⟩ := r a _ e
      exact ⟨a, kvs, _, rfl, rep_ref1 rv, by rw [key_rep ru h.1]; exact .inl ⟨ks, _, .inl s1, rfl, rfl⟩, h.2, fin (fun a => keq_keyW a h.1) s2⟩
    · rename_i kvs e
      obtain ⟨o, ks, s1, s2⟩ := r a _ e
      exact ⟨a, kvs, _, rfl, rep_ref1 rv, by rw [key_rep ru h.1]; exact .inl ⟨ks, _, .inr ⟨o, s1⟩, rfl, rfl⟩, h.2, fin (fun a => keq_keyW a h.1) s2⟩
    · rename_i kvs e
      obtain ⟨ks, s1, s2⟩ := r a _ e
      obtain ⟨b, rfl, hb⟩ := keyT_rep ru h.1
      exact ⟨a, kvs, _, rfl, rep_ref1 rv, .inr ⟨ks, _, b, .inl s1, rfl, hb, rfl⟩, h.2, fin (keq_tk h.1) s2⟩
    · rename_i kvs e
      obtain ⟨o, ks, s1, s2⟩ := r a _ e
      obtain ⟨b, rfl, hb⟩ := keyT_rep ru h.1
      exact ⟨a, kvs, _, rfl, rep_ref1 rv, .inr ⟨ks, _, b, .inr ⟨o, s1⟩, rfl, hb, rfl⟩, h.2, fin (keq_tk h.1) s2⟩
    · exact h.elim
  | _ => exact h.elim
/-! ### subscripts -/
section
variable {X : Cx}
def rIxD : L2.R2 := fun x y H Q => ∃ a v, x = .ref a ∧ DGet H a y (some v) ∧ Q v H
theorem ix_dict (hu : X.A.units + 1 < cLine) : IxR X rIxD := by
  intro value slice pins s σ H x y v u Q I rx ry h hs
  obtain ⟨a, z, rfl, g, q⟩ := h
  cases rx
  have h : wpAny (model X.prog X.w) X.A (getItem (.ref a) u) (EP X pins σ Q) X.xe s := d_getItem hu I g ry fun w' s3 I3 rw' => ⟨z, H, I3, rw', q⟩
  have hT := dict_typeIs I g
  unfold subscriptTail
  refine wpAny_bind ?_
  rw [getitemInPython_of_ne hT.not_modules]
  refine wpAny_bind (wpAny_specialOf hT PySem.F.slot_dict_getitem.lookup ?_)
  have fin : wpAny (model X.prog X.w) X.A (subscripted slice false (.ref a) u) (fun r s₃ => wpAny (model X.prog X.w) X.A (letTemporaryGo value (.ref a) r >>= fun _ => pure r) (EP X pins σ Q) X.xe s₃) X.xe s := by
    rw [hs]
    exact wpAny_operating (wpAny_mono h (fun r s₃ h₃ => wpAny_bind (wpAny_letTemporaryGo (wpAny_pure h₃))) fun _ _ x => x)
  first
    | exact wpAny_pure (wpAny_bind fin)
    | exact wpAny_bind (wpAny_pure (wpAny_bind fin))
    | exact wpAny_bind fin
theorem IxR.or {r r' : L2.R2} (a : IxR X r) (b : IxR X r') : IxR X fun x y H Q => r x y H Q ∨ r' x y H Q := by
  intro value slice pins s σ H x y v u Q I rx ry h hs
  rcases h with h | h
  · exact a value slice pins s σ H x y v u Q I rx ry h hs
  · exact b value slice pins s σ H x y v u Q I rx ry h hs
theorem x_at (hu : X.A.units + 1 < cLine) : IxR3 X rAt := by
  obtain ⟨r, h1, h2⟩ := x_ix (X := X)
  refine ⟨_, IxR.or h1 (ix_dict hu), fun x y v u H G Q3 Q r rv ru h k => ?_⟩
  have dd : ∀ (a : Addr) (kvs : List (W × W)), x = .ref a → dictOf x G y (fun kvs' => kvs' = kvs) → (match look kvs y with | some w => Q3 w G | none => False) → rIxD v u H Q := fun a kvs ex hd h => by
    obtain ⟨a', kvs', ov, e1, e2, g, rfl, m⟩ := dget_of r rv ru hd
    cases e : look kvs' y with
    | none => rw [e] at h; exact h.elim
    | some w =>
      rw [e] at h m
      obtain ⟨z, rfl, rz⟩ := m
      exact ⟨a', z, e2, g, k z H w G .refl r rz h⟩
  cases x with
  | ref a =>
    cases e : G a with
    | none => simp only [rAt, e] at h
    | some o =>
      cases o with
      | lst ws => exact .inl (h2 _ _ _ _ _ _ _ _ r rv ru (by simp only [rAt, e] at h; simp only [L3.rIx, e]; cases y <;> first | exact h | exact h.elim) k)
      | rdl ws => exact .inl (h2 _ _ _ _ _ _ _ _ r rv ru (by simp only [rAt, e] at h; simp only [L3.rIx, e]; cases y <;> first | exact h | exact h.elim) k)
      | dct kvs => simp only [rAt, e] at h; exact .inr (dd a kvs rfl (by simp only [dictOf, e]; exact ⟨h.1, trivial⟩) h.2)
      | rdc kvs => simp only [rAt, e] at h; exact .inr (dd a kvs rfl (by simp only [dictOf, e]; exact ⟨h.1, trivial⟩) h.2)
      | dtt kvs => simp only [rAt, e] at h; exact .inr (dd a kvs rfl (by simp only [dictOf, e]; exact ⟨h.1, trivial⟩) h.2)
      | rdt kvs => simp only [rAt, e] at h; exact .inr (dd a kvs rfl (by simp only [dictOf, e]; exact ⟨h.1, trivial⟩) h.2)
      | _ => simp only [rAt, e] at h
  | str z => exact .inl (h2 _ _ _ _ _ _ _ _ r rv ru h k)
  | tup z => exact .inl (h2 _ _ _ _ _ _ _ _ r rv ru h k)
  | ktp z => exact .inl (h2 _ _ _ _ _ _ _ _ r rv ru h k)
  | _ => exact h.elim
/-! ### in -/
def rInDD (neg : Bool → Bool) : L2.R2 := fun x y H Q => ∃ a ov, y = .ref a ∧ DGet H a x ov ∧ Q (.bl (neg ov.isSome)) H
theorem op_inDD (hu : X.A.units + 1 < cLine) : OpR X (compareOp .In) (rInDD fun k => k) := by
  intro pins s σ H x y v u Q I rx ry h
  obtain ⟨a, ov, rfl, g, q⟩ := h
  cases ry
  exact d_in hu I g rx fun s3 I3 => ⟨.bl ov.isSome, H, I3, rfl, q⟩
theorem op_ninDD (hu : X.A.units + 1 < cLine) : OpR X (compareOp .NotIn) (rInDD fun k => !k) := by
  intro pins s σ H x y v u Q I rx ry h
  obtain ⟨a, ov, rfl, g, q⟩ := h
  cases ry
  exact d_notIn hu I g rx fun s3 I3 => ⟨.bl (!ov.isSome), H, I3, rfl, q⟩
theorem inB_sim {r0 : L2.R2} {neg : Bool → Bool} (h0 : ∀ (x y : W) (v u : V) (H : Hp) (G : Gh) (Q3 : QV) (Q : VK), Rel X.K H G → Rep X.K H x v → Rep X.K H y u → rInA x y G (fun k => Q3 (.bl (neg k)) G) → (∀ v H' w G', Ext X.K H H' → Rel X.K H' G' → Rep X.K H' w v → Q3 w G' → Q v H') → r0 v u H Q) :
    ∀ x y v u H G (Q3 : QV) (Q : VK), Rel X.K H G → Rep X.K H x v → Rep X.K H y u → rInB x y G (fun k => Q3 (.bl (neg k)) G) → (∀ v H' w G', Ext X.K H H' → Rel X.K H' G' → Rep X.K H' w v → Q3 w G' → Q v H') → r0 v u H Q ∨ rInDD neg v u H Q := by
  intro x y v u H G Q3 Q r rv ru h k
  have dd : ∀ (a : Addr) (kvs : List (W × W)), y = .ref a → dictOf y G x (fun kvs' => kvs' = kvs) → Q3 (.bl (neg (has kvs x))) G → rInDD neg v u H Q := fun a kvs ex hd h => by
    obtain ⟨a', kvs', ov, e1, e2, g, rfl, m⟩ := dget_of r ru rv hd
    refine ⟨a', ov, e2, g, ?_⟩
    have e : ov.isSome = has kvs' x := by
      unfold has
      cases e : look kvs' x with
      | none => rw [e] at m; rw [m]; rfl
      | some w => rw [e] at m; obtain ⟨z, rfl, _⟩ := m; rfl
    rw [e]
    exact k _ H _ G .refl r rbl h
  cases y with
  | ref a =>
    cases e : G a with
    | none => simp only [rInB, e] at h
    | some o =>
      cases o with
      | lst ws => exact .inl (h0 _ _ _ _ _ _ _ _ r rv ru (by simpa only [rInB, rInA, e] using h) k)
      | dct kvs => simp only [rInB, e] at h; exact .inr (dd a kvs rfl (by simp only [dictOf, e]; exact ⟨h.1, trivial⟩) h.2)
      | rdc kvs => simp only [rInB, e] at h; exact .inr (dd a kvs rfl (by simp only [dictOf, e]; exact ⟨h.1, trivial⟩) h.2)
      | dtt kvs => simp only [rInB, e] at h; exact .inr (dd a kvs rfl (by simp only [dictOf, e]; exact ⟨h.1, trivial⟩) h.2)
      | rdt kvs => simp only [rInB, e] at h; exact .inr (dd a kvs rfl (by simp only [dictOf, e]; exact ⟨h.1, trivial⟩) h.2)
      | _ => simp only [rInB, e] at h
  | str z => exact .inl (h0 _ _ _ _ _ _ _ _ r rv ru (by simp only [rInB] at h; simp only [rInA]; split at h <;> first | exact h | exact h.elim) k)
  | tup z => exact .inl (h0 _ _ _ _ _ _ _ _ r rv ru (by simpa only [rInB, rInA] using h) k)
  | ktp z => exact .inl (h0 _ _ _ _ _ _ _ _ r rv ru (by simpa only [rInB, rInA] using h) k)
  | _ => exact h.elim
theorem o_inD (hu : X.A.units + 65 < cLine) : OpR3 X (compareOp .In) rInD := by
  obtain ⟨r, h1, h2⟩ := o_in (X := X) hu
  exact ⟨_, h1.or (op_inDD (by omega)), inB_sim (neg := fun k => k) fun x y v u H G Q3 Q a b c d k => h2 x y v u H G Q3 Q a b c d k⟩
theorem o_notinD (hu : X.A.units + 65 < cLine) : OpR3 X (compareOp .NotIn) rNotInD := by
  obtain ⟨r, h1, h2⟩ := o_notin (X := X) hu
  exact ⟨_, h1.or (op_ninDD (by omega)), inB_sim (neg := fun k => !k) fun x y v u H G Q3 Q a b c d k => h2 x y v u H G Q3 Q a b c d k⟩
/-! ### o[i] = v -/
variable {o i e f value : Expr} {pos pos' apos cpos : Pos} {td ty tv tz : TE}
theorem ps_putA {td ty tv : L2.TE} (hu : X.A.units + 1 < cLine) (hv : PE X value tv) (ho : PE X o td) (hi : PE X i ty) (hs : swapsWith value (some (.Subscript o i pos')) pos.line X.env = pure false) :
    PS X (.Assign [.Subscript o i pos'] value pos) (fun D σ H => tv σ H fun v H1 => td σ H1 fun x H2 => ty σ H2 fun y H3 => (∃ a H4, x = .ref a ∧ DPut H3 a y v H4 ∧ D.nx σ H4) ∨ L2.rSetL x y v H3 (D.nx σ)) := by
  refine ⟨fun pins s σ H D I h => ?_⟩
  refine wpAny_Assign_Subscript (thn (hv.run pins s σ H _ I h) fun r s1 ⟨v, H1, I1, rv, q1⟩ => thn (ho.run pins s1 σ H1 _ I1 q1) fun u s2 ⟨x, H2, I2, rx, q2⟩ => thn (hi.run pins s2 σ H2 _ I2 q2) fun iv s3 ⟨y, H3, I3, ry, q3⟩ => ?_) hs
  rcases q3 with ⟨a, H4, ex, g, q3⟩ | q3
  · subst ex
    obtain rfl : u = Value.ref a := rx
    exact d_setItem hu I3 g ry rv fun s4 I4 => ⟨σ, H4, I4, q3⟩
  · exact thn (set_list pins s3 σ H3 x y v u iv r _ I3 rx ry rv q3) fun _ s4 ⟨H4, I4, q4⟩ => ⟨σ, H4, I4, q4⟩
theorem ps3_putA (hu : X.A.units + 1 < cLine) (hv : PE3 X value tv) (ho : PE3 X o td) (hi : PE3 X i ty) (hs : swapsWith value (some (.Subscript o i pos')) pos.line X.env = pure false := by rfl) :
    PS3 X (.Assign [.Subscript o i pos'] value pos) (sPutA tv td ty) := fun E tk => by
  obtain ⟨t, p1, q1⟩ := hv E tk
  obtain ⟨u, p2, q2⟩ := ho E tk
  obtain ⟨z, p3, q3⟩ := hi E tk
  refine ⟨_, ps_putA hu p1 p2 p3 hs, fun D D3 σ H γ G hE oe hs hr h3 => ?_⟩
  cases E; dsimp only at hE; subst hE
  refine q1 σ H γ G _ _ hs hr h3 fun v H1 w G1 x1 r1 rv h3 => ?_
  refine q2 σ H1 γ G1 _ _ (hs.ext x1) r1 h3 fun v2 H2 w2 G2 x2 r2 rv2 h3 => ?_
  refine q3 σ H2 γ G2 _ _ (hs.ext (x1.trans x2)) r2 h3 fun v3 H3 w3 G3 x3 r3 rv3 h3 => ?_
  have rv' := rv.ext (x2.trans x3)
  have y := (x1.trans x2).trans x3
  cases w2 with
  | ref a =>
    rw [rep_ref1 rv2]
    simp only at h3
    split at h3
    · rename_i ws eq
      cases w3 with
      | int j =>
        obtain ⟨xs, s1, s2⟩ := r3.lst eq
        have m : Mut (H3 a) := by rw [s1]; trivial
        simp only at h3
        cases e : ixn ws.length j with
        | none => rw [e] at h3; exact h3.elim
        | some n =>
          rw [e] at h3
          refine .inr ⟨a, xs, j, n, rfl, rep_int1 rv3, s1, by rw [ixn_eq, ← s2.length]; exact e, ?_⟩
          exact oe.nx σ _ γ _ (y.trans (.write m)) (hs.ext (y.trans (.write m))) (r3.write (o := .lst (ws.set n w)) m ⟨_, upd_same, (s2.set n rv').ext (.write m)⟩) h3
      | _ => exact h3.elim
    · rename_i kvs eq
      obtain ⟨hk, hz, h3⟩ := h3
      obtain ⟨ks, s1, s2⟩ := r3 a _ eq
      have m : Mut (H3 a) := by rw [s1]; trivial
      rw [key_rep rv3 hk]
      refine .inl ⟨a, _, rfl, DPut.k s1 (by rw [← s2.length, sz_eq]; exact hz), ?_⟩
      exact oe.nx σ _ γ _ (y.trans (.write m)) (hs.ext (y.trans (.write m))) (r3.write (o := .dct (putD kvs w3 w)) m ⟨_, upd_same, (put_rep hk rv' s2).ext (.write m)⟩) h3
    · rename_i kvs eq
      obtain ⟨hk, hz, h3⟩ := h3
      obtain ⟨ks, s1, s2⟩ := r3 a _ eq
      have m : Mut (H3 a) := by rw [s1]; trivial
      obtain ⟨b, rfl, hb⟩ := keyT_rep rv3 hk
      refine .inl ⟨a, _, rfl, DPut.t s1 hb (by rw [← s2.length, sz_eq]; exact hz), ?_⟩
      exact oe.nx σ _ γ _ (y.trans (.write m)) (hs.ext (y.trans (.write m))) (r3.write (o := .dtt (putD kvs w3 w)) m ⟨_, upd_same, (put_repG (keq_tk hk) (tk_keys hk) rv' s2).ext (.write m)⟩) h3
    · exact h3.elim
  | _ => exact h3.elim
theorem pe3_dnewT : PE3 X (.Dict [] [] pos) eDnewT := fun E tk => ⟨_, pe_dnewT, fun σ H γ G Q3 Q hs hr h3 k => fun p hp =>
  k _ _ _ _ (.new hp) (hr.new (o := .dtt []) hp ⟨[], upd_same, rfl⟩) rref (h3 p (hr.free hp))⟩
/-! ### get -/
theorem isD_of {K : Frag} {H : Hp} {G : Gh} {x : W} {v : V} (r : Rel K H G) (rv : Rep K H x v) (h : isDW x G) : ∃ a, v = .ref a ∧ IsD H a := by
  cases x with
  | ref a =>
    refine ⟨a, rep_ref1 rv, ?_⟩
    simp only [isDW] at h
    split at h
    · rename_i e; obtain ⟨ks, s1, _⟩ := r a _ e; exact .inl ⟨ks, .inl s1⟩
    · rename_i e; obtain ⟨o, ks, s1, _⟩ := r a _ e; exact .inl ⟨ks, .inr ⟨o, s1⟩⟩
    · rename_i e; obtain ⟨ks, s1, _⟩ := r a _ e; exact .inr ⟨ks, .inl s1⟩
    · rename_i e; obtain ⟨o, ks, s1, _⟩ := r a _ e; exact .inr ⟨ks, .inr ⟨o, s1⟩⟩
    · exact h.elim
  | _ => exact h.elim
theorem pe3_dget1 (hu : X.A.units + 1 < cLine) (ho : PE3 X o td) (hi : PE3 X e ty) (m : M1 X o "get" apos e cpos := by exact ⟨rfl, rfl, rfl, rfl⟩) : PE3 X (.Call (.Attribute o "get" apos) [e] [] cpos) (eDget1 td ty) := fun E tk => by
  obtain ⟨t, p1, q1⟩ := ho E tk
  obtain ⟨u, p2, q2⟩ := hi E tk
  refine ⟨_, pe_dget1 hu p1 p2 m, fun σ H γ G Q3 Q hs hr h3 k => ?_⟩
  refine q1 σ H γ G _ _ hs hr h3 fun v H1 w G1 x1 r1 rv h3 => ?_
  obtain ⟨a, rfl, d⟩ := isD_of r1 rv h3.1
  refine ⟨a, rfl, d, ?_⟩
  refine q2 σ H1 γ G1 _ _ (hs.ext x1) r1 h3.2 fun v2 H2 w2 G2 x2 r2 rv2 h3 => ?_
  obtain ⟨a', kvs, ov, e1, e2, g, h3, mm⟩ := dget_of r2 (rv.ext x2) rv2 h3
  cases e2
  refine ⟨ov, g, ?_⟩
  cases el : look kvs w2 with
  | none => rw [el] at mm h3; subst mm; exact k _ H2 _ G2 (x1.trans x2) r2 rnon h3
  | some z => rw [el] at mm h3; obtain ⟨y, rfl, ry⟩ := mm; exact k _ H2 _ G2 (x1.trans x2) r2 ry h3
theorem pe3_dget2 (hu : X.A.units + 1 < cLine) (ho : PE3 X o td) (hi : PE3 X e ty) (hf : PE3 X f tz) (m : M2 X o "get" apos e f cpos := by exact ⟨rfl, rfl, rfl, rfl⟩) : PE3 X (.Call (.Attribute o "get" apos) [e, f] [] cpos) (eDget2 td ty tz) := fun E tk => by
  obtain ⟨t, p1, q1⟩ := ho E tk
  obtain ⟨u, p2, q2⟩ := hi E tk
  obtain ⟨s, p3, q3⟩ := hf E tk
  refine ⟨_, pe_dget2 hu p1 p2 p3 m, fun σ H γ G Q3 Q hs hr h3 k => ?_⟩
  refine q1 σ H γ G _ _ hs hr h3 fun v H1 w G1 x1 r1 rv h3 => ?_
  obtain ⟨a, rfl, d⟩ := isD_of r1 rv h3.1
  refine ⟨a, rfl, d, ?_⟩
  refine q2 σ H1 γ G1 _ _ (hs.ext x1) r1 h3.2 fun v2 H2 w2 G2 x2 r2 rv2 h3 => ?_
  refine q3 σ H2 γ G2 _ _ (hs.ext (x1.trans x2)) r2 h3 fun v3 H3 w3 G3 x3 r3 rv3 h3 => ?_
  obtain ⟨a', kvs, ov, e1, e2, g, h3, mm⟩ := dget_of r3 (rv.ext (x2.trans x3)) (rv2.ext x3) h3
  cases e2
  refine ⟨ov, g, ?_⟩
  have y := (x1.trans x2).trans x3
  cases el : look kvs w2 with
  | none => rw [el] at mm h3; subst mm; exact k _ H3 _ G3 y r3 rv3 h3
  | some z => rw [el] at mm h3; obtain ⟨y', rfl, ry⟩ := mm; exact k _ H3 _ G3 y r3 ry h3
/-! ### pop, setdefault -/
theorem KT_without {H : Hp} (k : List Key) {kvs : List (List Key × V)} {xs : List (List Key × Addr × Value)} (r : KT H kvs xs) : KT H (dropK kvs k) (withoutH xs k) := L2.DX.KT_drop k r
/-- the dict at a without the key y -/
theorem d_popG {pins : List (Addr × Obj)} {σ : St} {H : Hp} {s : Shared} {a : Addr} {y v : V} {u : Value} {more : List Value} {Q : Value → Shared → Prop} {E : Value → Shared → Prop} {A : Around} (hu : A.units + 1 < cLine) (I : Inv X pins σ H s) (ry : RelV y u) (hm : more = [] ∨ ∃ x, more = [x])
    (g : (∃ kvs k, H a = some (.dK kvs) ∧ y = kV k ∧ valV kvs k = some v ∧ ∀ w' s', Inv X pins σ (upd H a (.dK (dropK kvs k))) s' → RelV v w' → Q w' s') ∨
      ∃ kvs k b, H a = some (.dT kvs) ∧ y = .ref b ∧ H b = some (.tup (k.map kV)) ∧ valV kvs k = some v ∧ ∀ w' s', Inv X pins σ (upd H a (.dT (dropK kvs k))) s' → RelV v w' → Q w' s') :
    wpAny (model X.prog X.w) A (call (.builtin "dict.pop") (.ref a :: u :: more)) Q E s := by
  rcases g with ⟨kvs, k, e, rfl, l, h⟩ | ⟨kvs, k, b, e, rfl, eb, l, h⟩
  · exact d_pop I e ry l hm h
  · cases (show u = Value.ref b from ry)
    obtain ⟨z, hd, xs, rel, dd⟩ := dt_of I.hok e
    have hz : xs.length ≤ sizeLine := by rw [← Paired.length rel]; exact z
    obtain ⟨w', hw, rw'⟩ := RelO.some_of (v := v) (o := (atKey xs k).map (·.2)) (by rw [← l]; exact rel.val k)
    obtain ⟨p, hp, hp2⟩ := Option.map_eq_some_iff.mp hw
    have ha : argsOk "dict.pop" ⟨.ref a :: .ref b :: more, []⟩ := by
      rcases hm with q | ⟨x, q⟩
      · subst q; exact PySem.F.args_dict_pop_2 _ _
      · subst q; exact PySem.F.args_dict_pop_3 _ _ _
    refine call_pop_heap (hsz := hz) hm ha (tupleKind_room_in1 hu) (key_of I.hok eb) hd dd hp fun h' dd' hs => h p.2 _ ?_ (by rw [hp2]; exact rw')
    obtain ⟨q, es, ep, hq, h2, h3, h4, _, h5⟩ := dd'
    refine d_write I (by rw [e]; exact True.intro) hs ⟨q, hq⟩ ⟨Nat.le_trans (dropK_le kvs k) z, hd, _, (KT_without k rel).keeps fun c ys ec => ?_, q, es, ep, hq, h2, h3, h4, h5⟩
    rw [upd_ne (ne_of ec e (fun z => nomatch z))]
    exact ec
/-- d.pop(y, r), y is not there -/
theorem d_popN {pins : List (Addr × Obj)} {σ : St} {H : Hp} {s : Shared} {a : Addr} {y d : V} {u r : Value} {Q : VK} (hu : X.A.units + 1 < cLine) (I : Inv X pins σ H s) (ry : RelV y u) (rd : RelV d r)
    (g : (∃ kvs k, H a = some (.dK kvs) ∧ y = kV k ∧ valV kvs k = none) ∨ ∃ kvs k b, H a = some (.dT kvs) ∧ y = .ref b ∧ H b = some (.tup (k.map kV)) ∧ valV kvs k = none) (h : Q d H) :
    wpAny (model X.prog X.w) X.A (call (.builtin "dict.pop") [.ref a, u, r]) (EP X pins σ Q) X.xe s := by
  rcases g with ⟨kvs, k, e, rfl, l⟩ | ⟨kvs, k, b, e, rfl, eb, l⟩
  · exact d_popD I e ry l fun s' I' => ⟨d, H, I', rd, h⟩
  · cases (show u = Value.ref b from ry)
    exact L2.DX.mt_popT hu pins s σ H (.ref a) [.ref b, d] (.ref a) [.ref b, r] Q I rfl (.cons rfl (.cons rd .nil)) ⟨a, kvs, k, b, d, rfl, rfl, e, eb, (fun v hv => by rw [l] at hv; cases hv), fun _ => h⟩
def isDM' (H : Hp) (a : Addr) : Prop := IsD H a
theorem isDM_of {K : Frag} {H : Hp} {G : Gh} {x : W} {v : V} (r : Rel K H G) (rv : Rep K H x v) (h : isDM x G) : ∃ a, x = .ref a ∧ v = .ref a ∧ IsD H a := by
  cases x with
  | ref a =>
    refine ⟨a, rfl, rep_ref1 rv, ?_⟩
    simp only [isDM] at h
    split at h
    · rename_i e; obtain ⟨ks, s1, _⟩ := r a _ e; exact .inl ⟨ks, .inl s1⟩
    · rename_i e; obtain ⟨ks, s1, _⟩ := r a _ e; exact .inr ⟨ks, .inl s1⟩
    · exact h.elim
  | _ => exact h.elim
/-- what stands for popping in the hand layer -/
def rPopA (y : V) (a : Addr) (H : Hp) (Q : VK) : Prop := ∃ v, (∃ kvs k, H a = some (.dK kvs) ∧ y = kV k ∧ valV kvs k = some v ∧ Q v (upd H a (.dK (dropK kvs k)))) ∨
  ∃ kvs k b, H a = some (.dT kvs) ∧ y = .ref b ∧ H b = some (.tup (k.map kV)) ∧ valV kvs k = some v ∧ Q v (upd H a (.dT (dropK kvs k)))
def rPopB (y : V) (a : Addr) (H : Hp) : Prop := (∃ kvs k, H a = some (.dK kvs) ∧ y = kV k ∧ valV kvs k = none) ∨ ∃ kvs k b, H a = some (.dT kvs) ∧ y = .ref b ∧ H b = some (.tup (k.map kV)) ∧ valV kvs k = none
theorem pop_sim {K : Frag} {H : Hp} {G : Gh} {y z : W} {a : Addr} {u : V} {P : Prop} {Q3 : QV} {Q : VK} (r : Rel K H G) (ru : Rep K H y u) (h : popD (.ref a) y z G Q3) (k : ∀ v H' w G', Ext K H H' → Rel K H' G' → Rep K H' w v → Q3 w G' → Q v H') (kz : Q3 z G → P) :
    rPopA u a H Q ∨ (rPopB u a H ∧ P) := by
  simp only [popD] at h
  split at h
  · rename_i kvs eq
    obtain ⟨hk, h⟩ := h
    obtain ⟨ks, s1, s2⟩ := r a _ eq
    have m : Mut (H a) := by rw [s1]; trivial
    cases el : look kvs y with
    | none =>
      rw [el] at h
      exact .inr ⟨.inl ⟨ks, _, s1, key_rep ru hk, look_none hk s2 el⟩, kz h⟩
    | some w =>
      rw [el] at h
      obtain ⟨v, g1, g2⟩ := look_some hk s2 el
      exact .inl ⟨v, .inl ⟨ks, _, s1, key_rep ru hk, g1, k _ _ _ _ (.write m) (r.write (o := .dct (dropD kvs y)) m ⟨_, upd_same, (drop_rep hk s2).ext (.write m)⟩) (g2.ext (.write m)) h⟩⟩
  · rename_i kvs eq
    obtain ⟨hk, h⟩ := h
    obtain ⟨ks, s1, s2⟩ := r a _ eq
    have m : Mut (H a) := by rw [s1]; trivial
    obtain ⟨b, rfl, hb⟩ := keyT_rep ru hk
    cases el : look kvs y with
    | none =>
      rw [el] at h
      exact .inr ⟨.inr ⟨ks, _, b, s1, rfl, hb, look_noneG (keq_tk hk) s2 el⟩, kz h⟩
    | some w =>
      rw [el] at h
      obtain ⟨v, g1, g2⟩ := look_someG (keq_tk hk) s2 el
      exact .inl ⟨v, .inr ⟨ks, _, b, s1, rfl, hb, g1, k _ _ _ _ (.write m) (r.write (o := .dtt (dropD kvs y)) m ⟨_, upd_same, (drop_repG (keq_tk hk) s2).ext (.write m)⟩) (g2.ext (.write m)) h⟩⟩
  · exact h.elim
theorem pe3_dpop2 (hu : X.A.units + 1 < cLine) (ho : PE3 X o td) (hi : PE3 X e ty) (hf : PE3 X f tz) (m : M2 X o "pop" apos e f cpos := by exact ⟨rfl, rfl, rfl, rfl⟩) : PE3 X (.Call (.Attribute o "pop" apos) [e, f] [] cpos) (eDpop2 td ty tz) := fun E tk => by
  obtain ⟨t, p1, q1⟩ := ho E tk
  obtain ⟨u, p2, q2⟩ := hi E tk
  obtain ⟨t3, p3, q3⟩ := hf E tk
  refine ⟨fun σ H Q => t σ H fun x H1 => ∃ a, x = .ref a ∧ IsD H1 a ∧ u σ H1 fun y H2 => t3 σ H2 fun z H3 => rPopA y a H3 Q ∨ (rPopB y a H3 ∧ Q z H3), ⟨fun pins s σ H Q I h => ?_⟩, fun σ H γ G Q3 Q hs hr h3 k => ?_⟩
  · refine wpAny_Call_method m.base m.few m.line PySem.F.plainAttrs_dict PySem.F.slot_dict_pop PySem.F.type_dict_pop (thn (p1.run pins s σ H _ I h) fun u s1 ⟨x, H1, I1, rx, a, ex, d, q1⟩ => ?_)
    subst ex
    obtain rfl : u = Value.ref a := rx
    obtain ⟨t1, t2, _⟩ := isD_at I1 d
    refine ⟨t1, t2, ?_⟩
    rw [m.trees]
    refine Calls.callWith_builtin rfl (Calls.evalArgs_plain (Calls.spliced_cons (thn (p2.run pins s1 σ H1 _ I1 q1) fun iv s2 ⟨y, H2, I2, ry, q2⟩ =>
      Calls.spliced_cons (thn (p3.run pins s2 σ H2 _ I2 q2) fun fv s3 ⟨z, H3, I3, rz, q3⟩ => Calls.spliced_nil ?_))))
    rcases q3 with ⟨v, ⟨kvs, k, e1, e2, e3, q⟩ | ⟨kvs, k, b, e1, e2, e3, e4, q⟩⟩ | ⟨q, q'⟩
    · exact d_popG (v := v) hu I3 ry (.inr ⟨_, rfl⟩) (.inl ⟨kvs, k, e1, e2, e3, fun w' s' I' r' => ⟨v, _, I', r', q⟩⟩)
    · exact d_popG (v := v) hu I3 ry (.inr ⟨_, rfl⟩) (.inr ⟨kvs, k, b, e1, e2, e3, e4, fun w' s' I' r' => ⟨v, _, I', r', q⟩⟩)
    · exact d_popN hu I3 ry rz q q'
  · refine q1 σ H γ G _ _ hs hr h3 fun v H1 w G1 x1 r1 rv h3 => ?_
    obtain ⟨a, rfl, rfl, d⟩ := isDM_of r1 rv h3.1
    refine ⟨a, rfl, d, ?_⟩
    refine q2 σ H1 γ G1 _ _ (hs.ext x1) r1 h3.2 fun v2 H2 w2 G2 x2 r2 rv2 h3 => ?_
    refine q3 σ H2 γ G2 _ _ (hs.ext (x1.trans x2)) r2 h3 fun v3 H3 w3 G3 x3 r3 rv3 h3 => ?_
    have y := (x1.trans x2).trans x3
    exact pop_sim r3 (rv2.ext x3) h3 (fun v' H' w' G' x' => k v' H' w' G' (y.trans x')) fun q => k _ H3 _ G3 y r3 rv3 q
theorem pe3_dpop1 (hu : X.A.units + 1 < cLine) (ho : PE3 X o td) (hi : PE3 X e ty) (m : M1 X o "pop" apos e cpos := by exact ⟨rfl, rfl, rfl, rfl⟩) : PE3 X (.Call (.Attribute o "pop" apos) [e] [] cpos) (eDpop1 td ty) := fun E tk => by
  obtain ⟨t, p1, q1⟩ := ho E tk
  obtain ⟨u, p2, q2⟩ := hi E tk
  refine ⟨fun σ H Q => t σ H fun x H1 => ∃ a, x = .ref a ∧ IsD H1 a ∧ u σ H1 fun y H2 => rPopA y a H2 Q, ⟨fun pins s σ H Q I h => ?_⟩, fun σ H γ G Q3 Q hs hr h3 k => ?_⟩
  · refine wpAny_Call_method m.base m.few m.line PySem.F.plainAttrs_dict PySem.F.slot_dict_pop PySem.F.type_dict_pop (thn (p1.run pins s σ H _ I h) fun u s1 ⟨x, H1, I1, rx, a, ex, d, q1⟩ => ?_)
    subst ex
    obtain rfl : u = Value.ref a := rx
    obtain ⟨t1, t2, _⟩ := isD_at I1 d
    refine ⟨t1, t2, ?_⟩
    rw [m.trees]
    refine Calls.callWith_builtin rfl (Calls.evalArgs_plain (Calls.spliced_cons (thn (p2.run pins s1 σ H1 _ I1 q1) fun iv s2 ⟨y, H2, I2, ry, q2⟩ => Calls.spliced_nil ?_)))
    obtain ⟨v, ⟨kvs, k, e1, e2, e3, q⟩ | ⟨kvs, k, b, e1, e2, e3, e4, q⟩⟩ := q2
    · exact d_popG (v := v) hu I2 ry (.inl rfl) (.inl ⟨kvs, k, e1, e2, e3, fun w' s' I' r' => ⟨v, _, I', r', q⟩⟩)
    · exact d_popG (v := v) hu I2 ry (.inl rfl) (.inr ⟨kvs, k, b, e1, e2, e3, e4, fun w' s' I' r' => ⟨v, _, I', r', q⟩⟩)
  · refine q1 σ H γ G _ _ hs hr h3 fun v H1 w G1 x1 r1 rv h3 => ?_
    obtain ⟨a, rfl, rfl, d⟩ := isDM_of r1 rv h3.1
    refine ⟨a, rfl, d, ?_⟩
    refine q2 σ H1 γ G1 _ _ (hs.ext x1) r1 h3.2 fun v2 H2 w2 G2 x2 r2 rv2 h3 => ?_
    have h4 : popD (.ref a) w2 .non G2 (fun w' G' => w' ≠ .non ∧ False ∨ Q3 w' G') ∨ popK (.ref a) w2 G2 Q3 := .inr h3
    have go : rPopA v2 a H2 Q := by
      simp only [popK] at h3
      split at h3
      · rename_i kvs eq
        obtain ⟨hk, h3⟩ := h3
        obtain ⟨ks, s1, s2⟩ := r2 a _ eq
        have m : Mut (H2 a) := by rw [s1]; trivial
        cases el : look kvs w2 with
        | none => rw [el] at h3; exact h3.elim
        | some w =>
          rw [el] at h3
          obtain ⟨v, g1, g2⟩ := look_some hk s2 el
          exact ⟨v, .inl ⟨ks, _, s1, key_rep rv2 hk, g1, k _ _ _ _ ((x1.trans x2).trans (.write m)) (r2.write (o := .dct (dropD kvs w2)) m ⟨_, upd_same, (drop_rep hk s2).ext (.write m)⟩) (g2.ext (.write m)) h3⟩⟩
      · rename_i kvs eq
        obtain ⟨hk, h3⟩ := h3
        obtain ⟨ks, s1, s2⟩ := r2 a _ eq
        have m : Mut (H2 a) := by rw [s1]; trivial
        obtain ⟨b, rfl, hb⟩ := keyT_rep rv2 hk
        cases el : look kvs w2 with
        | none => rw [el] at h3; exact h3.elim
        | some w =>
          rw [el] at h3
          obtain ⟨v, g1, g2⟩ := look_someG (keq_tk hk) s2 el
          exact ⟨v, .inr ⟨ks, _, b, s1, rfl, hb, g1, k _ _ _ _ ((x1.trans x2).trans (.write m)) (r2.write (o := .dtt (dropD kvs w2)) m ⟨_, upd_same, (drop_repG (keq_tk hk) s2).ext (.write m)⟩) (g2.ext (.write m)) h3⟩⟩
      · exact h3.elim
    exact go
/-- d.setdefault(y, r) -/
theorem d_setd {pins : List (Addr × Obj)} {σ : St} {H : Hp} {s : Shared} {a : Addr} {y d : V} {u r : Value} {Q : VK} (hu : X.A.units + 1 < cLine) (I : Inv X pins σ H s) (ry : RelV y u) (rd : RelV d r)
    (g : ∃ o H', DGet H a y o ∧ DPut H a y d H' ∧ (match o with | some v => Q v H | none => Q d H')) : wpAny (model X.prog X.w) X.A (call (.builtin "dict.setdefault") [.ref a, u, r]) (EP X pins σ Q) X.xe s := by
  obtain ⟨o, H', g1, g2, h⟩ := g
  rcases g2 with ⟨kvs, k, e, ey, l, eH⟩ | ⟨kvs, k, b, e, ey, eb, l, eH⟩
  · subst ey eH
    have eo : o = valV kvs k := by
      rcases g1 with ⟨kvs', k', e', ek, eo⟩ | ⟨kvs', k', b', e', ek, _, _⟩
      · have := kV_inj ek; subst this
        rcases e' with e' | ⟨o', e'⟩
        · rw [e] at e'; cases e'; exact eo
        · rw [e] at e'; cases e'
      · cases k <;> cases ek
    subst eo
    obtain ⟨z, hd, vs, rel, dd⟩ := dk_of I.hok e
    have hz : vs.length ≤ sizeLine := by rw [← rel.length]; exact z
    have hl : (putK kvs k d).length ≤ sizeLine := by have := length_putK kvs k d; omega
    refine call_meetsIn PySem.F.slot_dict_setdefault dd.typeIs PySem.F.entry_dict_setdefault (PySem.F.args_dict_setdefault_3 _ _ _) (kt_meets_setdefault (mixKind X.prog X.w) a (kV_is ry) hd r) ⟨vs, dd, hz, fun v' hv' => ?_, fun hn h' dd' hs => ?_⟩
    · have rr := rel.val k
      rw [hv'] at rr
      cases ev : valV kvs k with
      | none => rw [ev] at rr; exact (show False from rr).elim
      | some v0 => rw [ev] at rr h; exact ⟨v0, H, I.tok _, rr, h⟩
    · have rr := rel.val k
      rw [hn] at rr
      cases ev : valV kvs k with
      | some v0 => rw [ev] at rr; exact (show False from rr).elim
      | none =>
        rw [ev] at h
        have he : ∃ q, h'.get? a = some q := let ⟨q, _, _, hq, _⟩ := dd'; ⟨q, hq⟩
        exact ⟨d, _, d_write I (by rw [e]; exact True.intro) hs he (dk_new hl hd (rel.put k rd) dd'), rd, h⟩
  · subst ey eH
    have eo : o = valV kvs k := by
      rcases g1 with ⟨kvs', k', e', ek, eo⟩ | ⟨kvs', k', b', e', ek, eb', eo⟩
      · cases k' <;> cases ek
      · cases ek
        rw [eb] at eb'
        injection eb' with eb'
        injection eb' with eb'
        have := kVs_inj eb'
        subst this
        rcases e' with e' | ⟨o', e'⟩
        · rw [e] at e'; cases e'; exact eo
        · rw [e] at e'; cases e'
    subst eo
    cases (show u = Value.ref b from ry)
    obtain ⟨z, hd, xs, rel, dd⟩ := dt_of I.hok e
    have hz : xs.length ≤ sizeLine := by rw [← Paired.length rel]; exact z
    have hl : (putK kvs k d).length ≤ sizeLine := by have := length_putK kvs k d; omega
    refine call_setdefault_heap (hsz := hz) (tupleKind_room_in1 hu) (key_of I.hok eb) hd dd (fun p hp => ?_) fun hn h' dd' hs => ?_
    · have rr := rel.val k
      rw [hp] at rr
      cases ev : valV kvs k with
      | none => rw [ev] at rr; exact (show False from rr).elim
      | some v0 => rw [ev] at rr h; exact ⟨v0, H, I.tok _, rr, h⟩
    · have rr := rel.val k
      rw [hn] at rr
      cases ev : valV kvs k with
      | some v0 => rw [ev] at rr; exact (show False from rr).elim
      | none =>
        rw [ev] at h
        obtain ⟨q, es, ep, hq, h2, h3, h4, _, h5⟩ := dd'
        refine ⟨d, upd H a (.dT (putK kvs k d)), d_write I (by rw [e]; exact True.intro) hs ⟨q, hq⟩ ⟨hl, hd, _, (rel.put k eb rd).keeps fun c ys ec => ?_, q, es, ep, hq, h2, h3, h4, h5⟩, rd, h⟩
        rw [upd_ne (ne_of ec e (fun z => nomatch z))]
        exact ec
theorem pe3_dsetd (hu : X.A.units + 1 < cLine) (ho : PE3 X o td) (hi : PE3 X e ty) (hf : PE3 X f tz) (m : M2 X o "setdefault" apos e f cpos := by exact ⟨rfl, rfl, rfl, rfl⟩) : PE3 X (.Call (.Attribute o "setdefault" apos) [e, f] [] cpos) (eDsetd td ty tz) := fun E tk => by
  obtain ⟨t, p1, q1⟩ := ho E tk
  obtain ⟨u, p2, q2⟩ := hi E tk
  obtain ⟨t3, p3, q3⟩ := hf E tk
  refine ⟨fun σ H Q => t σ H fun x H1 => ∃ a, x = .ref a ∧ IsD H1 a ∧ u σ H1 fun y H2 => t3 σ H2 fun z H3 => ∃ o H', DGet H3 a y o ∧ DPut H3 a y z H' ∧ (match o with | some v => Q v H3 | none => Q z H'), ⟨fun pins s σ H Q I h => ?_⟩, fun σ H γ G Q3 Q hs hr h3 k => ?_⟩
  · refine wpAny_Call_method m.base m.few m.line PySem.F.plainAttrs_dict PySem.F.slot_dict_setdefault PySem.F.type_dict_setdefault (thn (p1.run pins s σ H _ I h) fun u s1 ⟨x, H1, I1, rx, a, ex, d, q1⟩ => ?_)
    subst ex
    obtain rfl : u = Value.ref a := rx
    obtain ⟨t1, t2, _⟩ := isD_at I1 d
    refine ⟨t1, t2, ?_⟩
    rw [m.trees]
    exact Calls.callWith_builtin rfl (Calls.evalArgs_plain (Calls.spliced_cons (thn (p2.run pins s1 σ H1 _ I1 q1) fun iv s2 ⟨y, H2, I2, ry, q2⟩ =>
      Calls.spliced_cons (thn (p3.run pins s2 σ H2 _ I2 q2) fun fv s3 ⟨z, H3, I3, rz, q3⟩ => Calls.spliced_nil (d_setd hu I3 ry rz q3)))))
  · refine q1 σ H γ G _ _ hs hr h3 fun v H1 w G1 x1 r1 rv h3 => ?_
    obtain ⟨a, rfl, rfl, d⟩ := isDM_of r1 rv h3.1
    refine ⟨a, rfl, d, ?_⟩
    refine q2 σ H1 γ G1 _ _ (hs.ext x1) r1 h3.2 fun v2 H2 w2 G2 x2 r2 rv2 h3 => ?_
    refine q3 σ H2 γ G2 _ _ (hs.ext (x1.trans x2)) r2 h3 fun v3 H3 w3 G3 x3 r3 rv3 h3 => ?_
    have y := (x1.trans x2).trans x3
    have rv2' := rv2.ext x3
    simp only at h3
    split at h3
    · rename_i kvs eq
      obtain ⟨hk, hz, h3⟩ := h3
      obtain ⟨ks, s1, s2⟩ := r3 a _ eq
      have m : Mut (H3 a) := by rw [s1]; trivial
      rw [key_rep rv2' hk]
      refine ⟨_, _, DGet.k s1, DPut.k s1 (by rw [← s2.length, sz_eq]; exact hz), ?_⟩
      cases el : look kvs w2 with
      | none =>
        rw [el] at h3
        rw [look_none hk s2 el]
        exact k _ _ _ _ (y.trans (.write m)) (r3.write (o := .dct (putD kvs w2 w3)) m ⟨_, upd_same, (put_rep hk rv3 s2).ext (.write m)⟩) (rv3.ext (.write m)) h3
      | some w =>
        rw [el] at h3
        obtain ⟨v, g1, g2⟩ := look_some hk s2 el
        rw [g1]
        exact k _ _ _ _ y r3 g2 h3
    · rename_i kvs eq
      obtain ⟨hk, hz, h3⟩ := h3
      obtain ⟨ks, s1, s2⟩ := r3 a _ eq
      have m : Mut (H3 a) := by rw [s1]; trivial
      obtain ⟨b, rfl, hb⟩ := keyT_rep rv2' hk
      refine ⟨_, _, DGet.t s1 hb, DPut.t s1 hb (by rw [← s2.length, sz_eq]; exact hz), ?_⟩
      cases el : look kvs w2 with
      | none =>
        rw [el] at h3
        rw [look_noneG (keq_tk hk) s2 el]
        exact k _ _ _ _ (y.trans (.write m)) (r3.write (o := .dtt (putD kvs w2 w3)) m ⟨_, upd_same, (put_repG (keq_tk hk) (tk_keys hk) rv3 s2).ext (.write m)⟩) (rv3.ext (.write m)) h3
      | some w =>
        rw [el] at h3
        obtain ⟨v, g1, g2⟩ := look_someG (keq_tk hk) s2 el
        rw [g1]
        exact k _ _ _ _ y r3 g2 h3
    · exact h3.elim
/-! ### lists -/
theorem m_pop : MtR3 X "list.pop" mPop := by
  refine ⟨_, mt_pop, fun w v ws vs H G Q3 Q r rv rl h k => ?_⟩
  cases w with
  | ref a =>
    simp only [mPop] at h
    split at h
    · rename_i t eq
      split at h
      · cases e : t.getLast? with
        | none => rw [e] at h; exact h.elim
        | some w =>
          rw [e] at h
          obtain ⟨xs, s1, s2⟩ := r.lst eq
          simp only [RepL] at rl
          subst rl
          have m : Mut (H a) := by rw [s1]; trivial
          rw [List.getLast?_eq_getElem?] at e
          obtain ⟨y, e1, e2⟩ := s2.get e
          rw [rep_ref1 rv]
          refine ⟨a, xs, y, rfl, rfl, s1, by rw [← s2.length]; exact e1, ?_⟩
          exact k _ _ _ _ (.write m) (r.write (o := .lst t.dropLast) m ⟨_, upd_same, s2.dropLast.ext (.write m)⟩) (e2.ext (.write m)) h
      · exact h.elim
    · exact h.elim
  | _ => exact h.elim
theorem repl_keys {K : Frag} {H : Hp} : ∀ {kvs : List (W × W)} {ks : List (List Key × V)} {bs : List Addr}, RepKV tkW K H kvs ks → IsKeys H ks bs → RepL K H (kvs.map (·.1)) (bs.map V.ref)
  | [], _, bs, r, h => by
    cases r
    cases h
    exact .nil
  | p :: kvs, _, bs, r, h => by
    obtain ⟨q, r', rfl, e, rv, rr⟩ := r
    cases h with
    | cons h1 h2 =>
      rw [List.map_cons, List.map_cons]
      refine .cons ?_ (repl_keys rr h2)
      rw [e]
      simp only [Rep]
      refine ⟨_, _, rfl, h1, ?_⟩
      have : ∀ l : List Key, RepL K H (l.map keyW) (l.map kV) := by
        intro l
        induction l with
        | nil => exact .nil
        | cons x l ih =>
          refine .cons ?_ ih
          cases x with
          | inl i => simp only [keyW, Rep]; rfl
          | inr s => simp only [keyW, Rep]; show V.str s = _; simp
      exact this _
theorem b_list (hc : X.calm = true) : CallR3 X (.type "list") bList := by
  have cl : CallR X (.type "list") (fun xs H Q => (∃ p ys, xs = [.ref p] ∧ (SqL X.K H p ys ∨ SqT X.K H p ys) ∧ ∀ l, H l = none → Q (.ref l) (upd H l (.lst ys))) ∨ (∃ d kvs, xs = [V.ref d] ∧ Rd H d (.dT kvs) ∧ ∀ p bs, H p = none → IsKeys H kvs bs → Q (.ref p) (upd H p (.lst (bs.map V.ref))))) := by
    intro pins s σ H xs us Q I r h
    rcases h with h | h
    · exact call_list_of pins s σ H xs us Q I r h
    · exact call_list_dT hc pins s σ H xs us Q I r h
  refine ⟨_, cl, fun ws vs H G Q3 Q r rv h k => ?_⟩
  simp only [bList] at h
  split at h
  · rename_i t
    obtain ⟨v, rfl, e⟩ := repl1 rv
    obtain ⟨p, xs, rfl, s1, s2⟩ := rep_tup e
    refine .inl ⟨p, xs, rfl, .inr s1, fun l hl => ?_⟩
    exact k _ _ _ _ (.new hl) (r.new (o := .lst t) hl ⟨_, upd_same, s2.ext (.new hl)⟩) rref (h l (r.free hl))
  · rename_i t
    obtain ⟨v, rfl, e⟩ := repl1 rv
    obtain ⟨p, xs, rfl, s1, s2⟩ := rep_ktp e
    refine .inl ⟨p, xs, rfl, .inr s1, fun l hl => ?_⟩
    exact k _ _ _ _ (.new hl) (r.new (o := .lst t) hl ⟨_, upd_same, s2.ext (.new hl)⟩) rref (h l (r.free hl))
  · rename_i a
    obtain ⟨v, rfl, e⟩ := repl1 rv
    rw [rep_ref1 e]
    split at h
    · rename_i t eq
      obtain ⟨xs, s1, s2⟩ := r.seq (.inl eq)
      refine .inl ⟨a, xs, rfl, .inl s1, fun l hl => ?_⟩
      exact k _ _ _ _ (.new hl) (r.new (o := .lst t) hl ⟨_, upd_same, s2.ext (.new hl)⟩) rref (h l (r.free hl))
    · rename_i t eq
      obtain ⟨xs, s1, s2⟩ := r.seq (.inr eq)
      refine .inl ⟨a, xs, rfl, .inl s1, fun l hl => ?_⟩
      exact k _ _ _ _ (.new hl) (r.new (o := .lst t) hl ⟨_, upd_same, s2.ext (.new hl)⟩) rref (h l (r.free hl))
    · rename_i kvs eq
      obtain ⟨ks, s1, s2⟩ := r a _ eq
      refine .inr ⟨a, ks, rfl, .inl s1, fun l bs hl hk => ?_⟩
      exact k _ _ _ _ (.new hl) (r.new (o := .lst (kvs.map (·.1))) hl ⟨_, upd_same, (repl_keys s2 hk).ext (.new hl)⟩) rref (h l (r.free hl))
    · exact h.elim
  · exact h.elim
end
end L3

end
section
/-! L3SndK: zip of two texts; x[::-1]. -/
namespace L3
open PySem PySem.Spec PyProof.Rows L2
/-! ### zip of two texts -/
def ItzS (x y : Str) : L2.It :=
  ⟨fun i H => i < x.cps.size ∧ i < y.cps.size,
    fun i H v H' => ∃ T c d, v = .ref T ∧ H T = none ∧ H' = upd H T (.tup [.str ⟨#[c]⟩, .str ⟨#[d]⟩]) ∧ x.cps[i]? = some c ∧ y.cps[i]? = some d,
    fun i H => x.cps.size ≤ i ∨ y.cps.size ≤ i⟩
theorem turn_zipS {P : Program} {w : World} {K : Frag} {elts : List Expr} {kk : Nat} {tpos : Pos} {x y : Str} {t u : Tok} {z TI TO i1 i2 : Addr} (D : ZipSep2 z TI TO i1 i2 [i1] [i2]) :
    Turn P w K (.Tuple elts kk tpos) (ItzS x y) [z, TI, TO, i1, i2] z (fun i h => i ≤ x.cps.size ∧ i ≤ y.cps.size ∧ IsZip h z TI TO .none ∧ IsTupOf2 h TI (.ref i1) (.ref i2) ∧ (∃ a b, IsTupOf2 h TO a b) ∧ h.IsStrIter i1 (strIterType x) x t i ∧ h.IsStrIter i2 (strIterType y) y u i) where
  mem := by simp
  obj := fun i h st c hc => by
    obtain ⟨_, _, hz, hTI, ⟨x, y, hTO⟩, ⟨o1, e1, _, d1⟩, ⟨o2, e2, _, d2⟩⟩ := st
    have e' : c = z ∨ c = TI ∨ c = TO ∨ c = i1 ∨ c = i2 := by simpa using hc
    rcases e' with q | q | q | q | q
    · rw [q]; exact ⟨_, hz, fun v q => nomatch q⟩
    · rw [q]; exact ⟨_, hTI, fun v q => nomatch q⟩
    · rw [q]; exact ⟨_, hTO, fun v q => nomatch q⟩
    · rw [q]; exact ⟨o1, e1, fun v q => by rw [d1] at q; cases q⟩
    · rw [q]; exact ⟨o2, e2, fun v q => by rw [d2] at q; cases q⟩
  keep := fun i h h' st k => by
    obtain ⟨l1, l2, hz, hTI, ⟨x, y, hTO⟩, ⟨o1, e1, r1⟩, ⟨o2, e2, r2⟩⟩ := st
    exact ⟨l1, l2, k z (by simp) _ hz, k TI (by simp) _ hTI, ⟨x, y, k TO (by simp) _ hTO⟩, ⟨o1, k i1 (by simp) o1 e1, r1⟩, ⟨o2, k i2 (by simp) o2 e2, r2⟩⟩
  item := by
    intro X hP hw hK hc i pins s σ H E I hf st hg
    subst hP hw hK
    obtain ⟨l1, l2, hz, hTI, ⟨x0, y0, hTO⟩, h1, h2⟩ := st
    obtain ⟨g1, g2⟩ := hg
    have hzl : z < s.heap.objs.size := Heap.lt_size hz
    have hh : X.A.handled = none := I.ok.hd hc
    have D1 : Draws X.prog X.w X.A.in1 i1 [i1] x.cps.size (fun i v => ∃ c u, x.cps[i]? = some c ∧ v = .str ⟨#[c]⟩ u) (fun i h => h.IsStrIter i1 (strIterType x) x t i) := Draws.text (A := X.A.in1) hh i1 x t
    have D2 : Draws X.prog X.w X.A.in1 i2 [i2] y.cps.size (fun i v => ∃ c u, y.cps[i]? = some c ∧ v = .str ⟨#[c]⟩ u) (fun i h => h.IsStrIter i2 (strIterType y) y u i) := Draws.text (A := X.A.in1) hh i2 y u
    refine wpAny_pyNext_zipD2_item D D1 D2 hz hTI hTO h1 h2 g1 g2 fun x1 x2 h' tk ⟨c, uc, hc1, e1⟩ ⟨d, ud, hd1, e2⟩ z' TO' h1' h2' hT hsz hk => ?_
    subst e1 e2
    refine ⟨_, rfl, wpAny_letOwnedTupleGo_zip (s := { s with heap := h', toks := tk }) z' fun h'' z'' sb => ?_⟩
    have hT2 : h''.get? s.heap.objs.size = some { cls := .type "tuple", data := .seq #[.str ⟨#[c]⟩ uc, .str ⟨#[d]⟩ ud] } := (sb.2 _ (Nat.ne_of_gt hzl)).trans hT
    have new : ObjOk X.prog X.w (upd H s.heap.objs.size (.tup [.str ⟨#[c]⟩, .str ⟨#[d]⟩])) h'' s.heap.objs.size (.tup [.str ⟨#[c]⟩, .str ⟨#[d]⟩]) :=
      ⟨by show 2 ≤ sizeLine; decide, [.str ⟨#[c]⟩ uc, .str ⟨#[d]⟩ ud], .cons ⟨uc, rfl⟩ (.cons ⟨ud, rfl⟩ .nil), ⟨_, hT2, rfl, _, rfl⟩⟩
    have I1 : Inv X pins σ (upd H s.heap.objs.size (.tup [.str ⟨#[c]⟩, .str ⟨#[d]⟩])) { s with heap := h'', toks := tk } :=
      I.turnedNew (t' := tk) (ch := [z, TI, TO, i1, i2]) (fun c o hb q => (sb.2 c (fun q' => hb (by simp [q']))).trans (hk c o (fun q' => hb (by simp [q'])) (fun q' => hb (by simp [q'])) (fun q' => hb (by simp [q'])) (fun q' => hb (by simp [q'])) q)) hf (Nat.le_refl _) new
    refine ⟨.ref s.heap.objs.size, _, I1, rfl, ⟨_, c, d, rfl, I.hok.fresh (Nat.le_refl _), rfl, hc1, hd1⟩, ⟨by omega, by omega, z'', ?_, ⟨.str ⟨#[c]⟩ uc, .str ⟨#[d]⟩ ud, ?_⟩, ?_, ?_⟩, fun c hcm => ?_⟩
    · exact (sb.2 _ D.TIz).trans (hk _ _ D.TIz D.TITO D.TIi1 D.TIi2 hTI)
    · exact (sb.2 _ D.TOz).trans TO'
    · obtain ⟨o, e, r⟩ := h1'; exact ⟨o, (sb.2 _ D.zi1.symm).trans e, r⟩
    · obtain ⟨o, e, r⟩ := h2'; exact ⟨o, (sb.2 _ D.zi2.symm).trans e, r⟩
    · have hlt : c < s.heap.objs.size := by
        have e' : c = z ∨ c = TI ∨ c = TO ∨ c = i1 ∨ c = i2 := by simpa using hcm
        rcases e' with q | q | q | q | q
        · rw [q]; exact hzl
        · rw [q]; exact Heap.lt_size hTI
        · rw [q]; exact Heap.lt_size hTO
        · rw [q]; obtain ⟨_, e1, _⟩ := h1; exact Heap.lt_size e1
        · rw [q]; obtain ⟨_, e2, _⟩ := h2; exact Heap.lt_size e2
      rw [upd_ne (Nat.ne_of_lt hlt)]
      exact (hf c hcm).1
  done := by
    intro X hP hw hK hc i pins s σ H E I hf st hg
    subst hP hw hK
    obtain ⟨l1, l2, hz, hTI, ⟨x0, y0, hTO⟩, h1, h2⟩ := st
    have hh : X.A.handled = none := I.ok.hd hc
    have D1 : Draws X.prog X.w X.A.in1 i1 [i1] x.cps.size (fun i v => ∃ c u, x.cps[i]? = some c ∧ v = .str ⟨#[c]⟩ u) (fun i h => h.IsStrIter i1 (strIterType x) x t i) := Draws.text (A := X.A.in1) hh i1 x t
    have D2 : Draws X.prog X.w X.A.in1 i2 [i2] y.cps.size (fun i v => ∃ c u, y.cps[i]? = some c ∧ v = .str ⟨#[c]⟩ u) (fun i h => h.IsStrIter i2 (strIterType y) y u i) := Draws.text (A := X.A.in1) hh i2 y u
    have hend : i = x.cps.size ∨ i = y.cps.size := by
      rcases (show x.cps.size ≤ i ∨ y.cps.size ≤ i from hg) with q | q <;> omega
    exact wpAny_pyNext_zipD2_end D D1 D2 hz hTI hTO h1 h2 l1 l2 hend fun h' tk hk => ⟨rfl, I.turnedL (t' := tk) (ch := [z, TI, TO, i1, i2]) (fun c o hb q =>
      hk c o (fun q' => hb (by simp [q'])) (fun q' => hb (by simp [q'])) (fun q' => hb (by simp [q'])) (fun q' => hb (by simp [q'])) q) hf⟩
  self := fun A i s Q E st h => wpAny_pyIter_zip st.2.2.1 h
section
variable {X : Cx} {pos : Pos}
def tZipS (ta : L2.TA) : L2.TI := fun σ H R => ta σ H fun vs H1 => ∃ x y, vs = [.str x, .str y] ∧ R (ItzS x y) H1
theorem pi_zipS {e e2 : Expr} {ta : L2.TA} {p tpos : Pos} {elts : List Expr} {kk : Nat} (hg : Gl X "zip") (hm : X.mg "zip" = none) (ha : PA X [e, e2] ta)
    (hs : starEach [e, e2] X.env = (false, eval e X.env) :: starEach [e2] X.env := by rfl) (hpl : (backTo pos (starEach [e2] X.env)).any (·.1) = false := by rfl) :
    PI X (.Tuple elts kk tpos) (.Call (.Name "zip" p) [e, e2] [] pos) (tZipS ta) := by
  refine ⟨fun pins s σ H R I h => ?_⟩
  refine Call_ (ld_blt I hg hm PyProof.Rows.boot_zip (PyProof.Rows.callWith_type1 (thn (ha.run pos pins s σ H _ I h) fun us s1 ⟨vs, H1, I1, r1, q1⟩ => ?_) hs hpl))
  obtain ⟨x, y, ex, q⟩ := q1
  subst ex
  cases r1 with
  | cons r rr =>
    cases rr with
    | cons r' rr =>
      cases rr
      obtain ⟨t, rfl⟩ := r
      obtain ⟨u, rfl⟩ := r'
      have fresh5 : ∀ c, c ∈ [s1.heap.objs.size + 4, s1.heap.objs.size + 2, s1.heap.objs.size + 3, s1.heap.objs.size, s1.heap.objs.size + 1] → FpOk X pins H1 c := fun c hcm => by
        have e' : c = s1.heap.objs.size + 4 ∨ c = s1.heap.objs.size + 2 ∨ c = s1.heap.objs.size + 3 ∨ c = s1.heap.objs.size ∨ c = s1.heap.objs.size + 1 := by simpa using hcm
        have hle : s1.heap.objs.size ≤ c := by
          rcases e' with z | z | z | z | z
          · rw [z]; exact Nat.le_add_right _ _
          · rw [z]; exact Nat.le_add_right _ _
          · rw [z]; exact Nat.le_add_right _ _
          · rw [z]; exact Nat.le_refl _
          · rw [z]; exact Nat.le_add_right _ _
        exact I1.fpOk hle (I1.hok.fresh hle)
      refine zip_begins2 (begins_text x t) (begins_text y u) trivial trivial fun h' hz hTI hTO h1 h2 hsz hk => wpAny_pyIter_zip hz ?_
      have I2 : Inv X pins σ H1 { s1 with heap := h' } := I1.kept (t' := s1.toks) hk
      have D : ZipSep2 (s1.heap.objs.size + 4) (s1.heap.objs.size + 2) (s1.heap.objs.size + 3) s1.heap.objs.size (s1.heap.objs.size + 1) [s1.heap.objs.size] [s1.heap.objs.size + 1] := by
        constructor <;> simp <;> omega
      exact ⟨s1.heap.objs.size + 4, [s1.heap.objs.size + 4, s1.heap.objs.size + 2, s1.heap.objs.size + 3, s1.heap.objs.size, s1.heap.objs.size + 1], _, _, H1, rfl, I2, turn_zipS (t := t) (u := u) D, ⟨Nat.zero_le _, Nat.zero_le _, hz, hTI, ⟨_, _, hTO⟩, ⟨_, h1, rfl, rfl⟩, ⟨_, h2, rfl, rfl⟩⟩, fresh5, q⟩
theorem simIt_zipS {K : Frag} {H0 : Hp} {x y : List Nat} : SimIt K H0 (ItzS (S x) (S y)) (fun _ => some (List.zipWith (fun c d => W.tup [.str [c], .str [d]]) x y)) := by
  intro i H G all x' r e
  cases e
  have sx : (S x).cps.size = x.length := by simp [S]
  have sy : (S y).cps.size = y.length := by simp [S]
  have gx : ∀ j : Nat, (S x).cps[j]? = x[j]? := fun j => by simp [S]
  have gy : ∀ j : Nat, (S y).cps[j]? = y[j]? := fun j => by simp [S]
  refine ⟨fun w ew => ?_, fun hl => ?_⟩
  · rw [List.getElem?_zipWith] at ew
    cases q1 : x[i]? with
    | none => rw [q1] at ew; cases ew
    | some c =>
      cases q2 : y[i]? with
      | none => rw [q1, q2] at ew; cases ew
      | some d =>
        rw [q1, q2] at ew
        cases ew
        have a1 := (List.getElem?_eq_some_iff.mp q1).1
        have a2 := (List.getElem?_eq_some_iff.mp q2).1
        refine ⟨⟨by rw [sx]; exact a1, by rw [sy]; exact a2⟩, fun z H' hy => ?_⟩
        obtain ⟨T, c', d', rfl, hT, rfl, f1, f2⟩ := hy
        rw [gx, q1] at f1
        rw [gy, q2] at f2
        cases f1
        cases f2
        refine ⟨.new hT, r.hid hT, ?_⟩
        simp only [Rep]
        exact ⟨T, _, rfl, upd_same, .cons rstr (.one rstr)⟩
  · rw [List.length_zipWith] at hl
    show (S x).cps.size ≤ i ∨ (S y).cps.size ≤ i
    rw [sx, sy]
    omega
theorem pi3_zipS {a b : Expr} {ta : TA} {p tpos : Pos} {elts : List Expr} {kk : Nat} (hg : Gl X "zip") (hm : X.mg "zip" = none) (ha : PA3 X [a, b] ta) (hs : starEach [a, b] X.env = (false, eval a X.env) :: starEach [b] X.env := by rfl)
    (hpl : (backTo pos (starEach [b] X.env)).any (·.1) = false := by rfl) : PI3 X (.Tuple elts kk tpos) (.Call (.Name "zip" p) [a, b] [] pos) (iZipS ta) := fun E tk => by
  obtain ⟨t, p1, q⟩ := ha E tk
  refine ⟨_, pi_zipS hg hm p1 hs hpl, fun σ H γ G R3 R hs hr h3 k => ?_⟩
  refine q σ H γ G _ _ hs hr h3 fun vs H1 ws G1 x1 r1 rv h3 => ?_
  split at h3
  · obtain ⟨v, u, rfl, r1v, ru⟩ := repl2 rv
    rw [rep_str1 r1v, rep_str1 ru]
    exact ⟨_, _, rfl, k _ _ H1 G1 x1 r1 simIt_zipS h3⟩
  · exact h3.elim
/-! ### x[::-1] -/
theorem idx_rev (z : List Nat) : ((Builtin.Str.strSliceIndices none none (-1) z.length).filterMap ((S z).cps[·]?)) = z.reverse := by
  have h : Builtin.Str.strSliceIndices none none (-1) z.length = (List.range z.length).reverse := by
    unfold Builtin.Str.strSliceIndices
    show sliceRange ((z.length : Int) - 1) (-1) (-1) = _
    rw [PySem.W.krv_sliceRange, PySem.W.krv_range]
  rw [h, List.filterMap_reverse]
  have h2 := PySem.W.krv_all (S z).cps
  have e : (S z).cps.size = z.length := by simp [S]
  rw [e] at h2
  rw [h2, S_toList]
def tRevA (K : Frag) (te : L2.TE) : L2.TE := fun σ H Q => te σ H fun x H1 => (∃ a xs, x = .ref a ∧ SqL K H1 a xs ∧ ∀ p, H1 p = none → Q (.ref p) (upd H1 p (.lst xs.reverse))) ∨ (∃ z : List Nat, x = .str (S z) ∧ z.length ≤ sizeLine ∧ Q (.str (S z.reverse)) H1)
theorem pe_revA {e : Expr} {te : L2.TE} {k : Nat} {p1 p2 p3 pos : Pos} (he : PE X e te) : PE X (.Subscript e (.Slice none none (some (.UnaryOp .USub (.Constant (.int 1) k p1) p2)) p3) pos) (tRevA X.K te) := by
  refine ⟨fun pins s σ H Q I h => ?_⟩
  refine Subscript_ (thn (he.run pins s σ H _ I h) fun v s1 ⟨x, H1, I1, r1, q1⟩ => ?_)
  have hst : PO X (some (.UnaryOp .USub (.Constant (.int 1) k p1) p2)) (tPart (tUn (rU fun i => .int (-i)) (tC (.int 1)))) := po_some (pe_un un_neg pe_int)
  refine wpAny_Slice (thn (po_none.run pins s1 σ H1 (fun o H2 => o = none ∧ H2 = H1) I1 ⟨rfl, rfl⟩) fun vl s2 ⟨l, H2, I2, pl, el, e2⟩ => ?_)
  subst el e2
  refine thn (po_none.run pins s2 σ H2 (fun o H3 => o = none ∧ H3 = H2) I2 ⟨rfl, rfl⟩) fun vu s3 ⟨u, H3, I3, pu, eu, e3⟩ => ?_
  subst eu e3
  refine thn (hst.run pins s3 σ H3 (fun o H4 => o = some (-1) ∧ H4 = H3) I3 ⟨1, rfl, -1, rfl, rfl, rfl⟩) fun vs s4 ⟨o, H4, I4, ps, eo, e4⟩ => ?_
  subst eo e4
  have I5 : Inv X pins σ H4 { s4 with heap := s4.heap.push { cls := .type "slice", data := .fields #[vl, vu, vs] } } := I4.kept (t' := s4.toks) fun b ob q => Heap.get?_push_of_some _ q
  rcases q1 with ⟨a, xs, ex, hx, q⟩ | ⟨z, ex, hz, q⟩
  · subst ex
    cases r1
    obtain ⟨its, r, ht, hz⟩ := I5.list hx
    have hlen := r.length
    show wpAny (model X.prog X.w) X.A (subscriptTail e (.Slice none none (some (.UnaryOp .USub (.Constant (.int 1) k p1) p2)) p3) (.ref a) (.ref s4.heap.objs.size)) (EP X pins σ Q) X.xe { s4 with heap := s4.heap.push { cls := .type "slice", data := .fields #[vl, vu, vs] } }
    refine tail_any (ops := [.ref a, .ref s4.heap.objs.size]) ht.isList.typeIs (PySem.slot_list_getitem.lookup) ?_ (by with_unfolding_all rfl)
    refine wpAny_getItem_list_slice ht.isList (Heap.IsSliceOf.new _ vl vu vs) pl pu ps (by decide) ?_ (by rw [List.size_toArray]; omega)
    rw [PySem.W.krv_pick]
    refine ⟨.ref _, _, I5.laid (t' := s4.toks) (o := .lst xs.reverse) (fun b ob q => Heap.get?_push_of_some _ q) (Nat.le_refl _) ?_, rfl, q _ (I5.hok.fresh (Nat.le_refl _))⟩
    exact ⟨by rw [List.length_reverse]; exact hz, _, 0, r.reverse, Heap.get?_push_size _ rfl⟩
  · subst ex
    obtain ⟨t, rfl⟩ := r1
    show wpAny (model X.prog X.w) X.A (subscriptTail e (.Slice none none (some (.UnaryOp .USub (.Constant (.int 1) k p1) p2)) p3) (.str (S z) t) (.ref s4.heap.objs.size)) (EP X pins σ Q) X.xe { s4 with heap := s4.heap.push { cls := .type "slice", data := .fields #[vl, vu, vs] } }
    refine tail_any (ops := [.ref s4.heap.objs.size, .str (S z) t]) (typeIs_str _ _ _) (PySem.F.slot_str_getitem.lookup) ?_ (by with_unfolding_all rfl)
    obtain ⟨l, rfl, el⟩ := IsPart.raw pl
    obtain ⟨u, rfl, eu⟩ := IsPart.raw pu
    obtain ⟨st, rfl, est⟩ := IsPart.raw ps
    have hl0 : l = none := by cases l with | none => rfl | some p => cases el
    have hu0 : u = none := by cases u with | none => rfl | some p => cases eu
    subst hl0 hu0
    cases st with
    | none => cases est
    | some stp =>
      obtain ⟨sv, st⟩ := stp
      cases est
      refine wpAny_getItem_str_slice (l := none) (u := none) (st := some (-1, st)) ⟨_, Heap.get?_push_size _ rfl, rfl, rfl⟩ rfl ?_
      have hzl : (S z).length = z.length := S_length z
      have hrev : (⟨((Builtin.Str.strSliceIndices none none (-1) (S z).length).filterMap ((S z).cps[·]?)).toArray⟩ : Str) = S z.reverse := by
        rw [hzl, idx_rev]; rfl
      show Made.post (if ((-1 : Int) == 1 && (Builtin.Str.strSliceIndices none none (-1) (S z).length).length == (S z).length) = true then Made.val (.str (S z) t)
        else Made.str ⟨((Builtin.Str.strSliceIndices none none (-1) (S z).length).filterMap ((S z).cps[·]?)).toArray⟩) (EP X pins σ Q) _
      rw [if_neg (by simp), hrev]
      refine ⟨by rw [S_length, List.length_reverse]; exact hz, .str _, H4, I5.tok _, ⟨_, rfl⟩, q⟩
theorem pe3_rev {e : Expr} {te : TE} {k : Nat} {p1 p2 p3 : Pos} (he : PE3 X e te) : PE3 X (.Subscript e (.Slice none none (some (.UnaryOp .USub (.Constant (.int 1) k p1) p2)) p3) pos) (eRev te) := fun E tk => by
  obtain ⟨t, p, q⟩ := he E tk
  refine ⟨_, pe_revA p, fun σ H γ G Q3 Q hs hr h3 k => ?_⟩
  refine q σ H γ G _ _ hs hr h3 fun v H1 w G1 x1 r1 rv h3 => ?_
  cases w with
  | str z =>
    rw [rep_str1 rv]
    exact .inr ⟨z, rfl, by rw [sz_eq]; exact h3.1, k _ H1 _ G1 x1 r1 rstr h3.2⟩
  | ref a =>
    cases e : G1 a with
    | none => simp only [e] at h3
    | some o =>
      cases o with
      | lst ws =>
        simp only [e] at h3
        obtain ⟨xs, s1, s2⟩ := r1.lst e
        rw [rep_ref1 rv]
        refine .inl ⟨a, xs, rfl, .inl (.inl s1), fun p hp => ?_⟩
        exact k _ _ _ _ (x1.trans (.new hp)) (r1.new (o := .lst ws.reverse) hp ⟨_, upd_same, s2.reverse.ext (.new hp)⟩) rref (h3 p (r1.free hp))
      | _ => simp only [e] at h3
  | _ => exact h3.elim
end
end L3

end
section
/-! L3SndKF: try .. finally (mode C alone). -/
namespace L3
open PySem PySem.Spec PyProof.Rows L2
section
variable {X : Cx} {body : List Stmt} {f₀ : Stmt} {fs : List Stmt} {pos : Pos} {tb : WX → L2.TS} {tf tfs : L2.TS} {Wout : WX}
theorem ps_bodyFin (hs : X.stack = X.env :: X.outer) (hf : X.env.frame = some X.env.locals) (hex : X.ex = []) (tk : Takes X Wout)
    (hb : ∀ (W : WX) (pn : List (Addr × Obj)) (xe : Value → Shared → Prop), Takes (X.tr pn xe) W → PassesOwn (model X.prog X.w) X.A X.env xe → PSs (X.tr pn xe) body (tb W))
    (hfin : PSs X.nox (f₀ :: fs) tf) (hsu : ∀ (a : Addr) (pn : List (Addr × Obj)), PSs (X.suite a pn) (f₀ :: fs) tfs) :
    PS X (.Try body [] [] (f₀ :: fs) pos) (fun D σ H => tb (wFin tfs Wout) { nx := fun σ' H' => tf D σ' H', rt := fun _ _ => False } σ H) := by
  refine ⟨fun pins s σ H D I h => ?_⟩
  have ok := I.ok
  refine wpAny_Try_finally ?_
  refine wpAny_mono ((hb (wFin tfs Wout) (X.pn ++ pins) (fun x s₁ => wpAny (model X.prog X.w) X.A (noteFrame x X.env) (fun _ s₂ => FinallyRaised X.prog X.w X.A X.xe X.env (f₀ :: fs) (SP X pins D) x s₂) (FinallyRaised X.prog X.w X.A X.xe X.env (f₀ :: fs) (SP X pins D)) s₁)
    (fun u s' xx => ?_) PassesOwn.looking).run [] s σ H { nx := fun σ' H' => tf D σ' H', rt := fun _ _ => False } (I.toTry _) h) (fun g s1 z => ?_) (fun x s1 hx => hx)
  · exact fin_exc hs hf hex ok tk hsu xx
  · cases g with
    | next =>
      obtain ⟨σ', H', I1, q1⟩ := z
      refine wpAny_execs_nil ?_
      refine wpAny_mono (hfin.run pins s1 σ' H' D ((I1.ofTry ok).wish _) q1) (fun g s2 q => ?_) fun _ _ z => False.elim z
      have q' : SP X pins D g s2 := q.unwish
      cases g with
      | next => exact q'
      | ret u => exact q'
      | brk => exact q'
      | cont => exact q'
    | ret u => obtain ⟨_, _, _, _, _, q⟩ := z; exact q.elim
    | brk => obtain ⟨_, _, _, q⟩ := z; exact q.elim
    | cont => obtain ⟨_, _, _, q⟩ := z; exact q.elim
theorem ps3_fin {tb3 tf3 : TS} (hs : X.stack = X.env :: X.outer) (hf : X.env.frame = some X.env.locals) (hex : X.ex = [])
    (hb : ∀ pn xe, PassesOwn (model X.prog X.w) X.A X.env xe → PSs3 (X.tr pn xe) body tb3) (hn : PSs3 X.nox (f₀ :: fs) tf3) (hu : ∀ a pn, PSs3 (X.suite a pn) (f₀ :: fs) tf3) :
    PS3 X (.Try body [] [] (f₀ :: fs) pos) (sFin tb3 tf3) := fun E tk => by
  let wb : WX → L2.TS := fun W D σ H => ∃ γ G D3, (∀ cls d σ' H', Ext X.K H H' → lowX X.K ⟨D3.ex, H⟩ cls d σ' H' → W cls d σ' H') ∧ EndsOk X.K H H D3 D ∧ RepS X.K H H γ σ ∧ Rel X.K H G ∧ tb3 D3 γ G
  let wf : L2.TS := fun D σ H => ∃ Z0 γ G D3, EndsOk X.K Z0 H D3 D ∧ RepS X.K Z0 H γ σ ∧ Rel X.K H G ∧ tf3 { D3 with ex := fun _ => X0 } γ G
  have fin : ∀ {Y : Cx}, Y.K = X.K → PSs3 Y (f₀ :: fs) tf3 → PSs Y (f₀ :: fs) wf := fun {Y} eK h => ⟨fun pins s σ H D I hw => by
    obtain ⟨Z0, γ, G, D3, hends, hr1, hr2, h3⟩ := hw
    obtain ⟨t, p, q⟩ := h ⟨fun _ => X0, Z0⟩ (takes0E Z0)
    exact p.run pins s σ H D I (q D { D3 with ex := fun _ => X0 } σ H γ G rfl (by rw [eK]; exact ⟨hends.nx, hends.rt, hends.bk, hends.ct⟩) (by rw [eK]; exact hr1) (by rw [eK]; exact hr2) h3)⟩
  refine ⟨_, ps_bodyFin (tb := wb) (tf := wf) (tfs := wf) hs hf hex tk (fun W pn xe tkW hp => ⟨fun pins s σ H D I hw => ?_⟩) (fin rfl hn) (fun a pn => fin rfl (hu a pn)), fun D D3 σ H γ G he ho hsg hr h3 => ?_⟩
  · obtain ⟨γ, G, D3, hle, hends, hr1, hr2, h3⟩ := hw
    have tk' : TakesE (X.tr pn xe) ⟨D3.ex, H⟩ := Takes.imp tkW fun cls d σ' H' z => by
      obtain ⟨γ', G', w, es, q1, q2, q3, q4, q5⟩ := z
      exact hle cls d σ' H' q1.x ⟨γ', G', w, es, q1, q2, q3, q4, q5⟩
    obtain ⟨t, p, q⟩ := hb pn xe hp ⟨D3.ex, H⟩ tk'
    exact p.run pins s σ H D I (q D D3 σ H γ G rfl hends hr1 hr2 h3)
  · refine ⟨γ, G, { nx := fun γ' G' => tf3 { D3 with ex := fun _ => X0 } γ' G', rt := fun w G' => False, ex := fun γ' w es G' => es = [] ∧ tf3 { nx := fun γ2 G2 => D3.ex γ2 w es G2, rt := fun _ _ => False, ex := fun _ => X0 } γ' G' }, fun cls d σ' H' x' z => ?_, ?_, ⟨hsg.f, .refl⟩, hr, h3⟩
    · obtain ⟨γ', G', w, es, q1, q2, q3, q4, rfl, q5⟩ := z
      have ed : d = none := by
        rcases q4 with ⟨e, _⟩ | ⟨_, _, z⟩
        · exact e
        · cases z
      refine ⟨E.h0, γ', G', { nx := fun γ2 G2 => D3.ex γ2 w [] G2, rt := fun _ _ => False, ex := fun _ => X0 }, ⟨fun σ2 H2 γ2 G2 y r rl z => ?_, fun _ _ _ _ _ _ _ z => z.elim, fun _ _ _ _ _ _ _ z => z.elim, fun _ _ _ _ _ _ _ z => z.elim⟩, ⟨q1.f, (hsg.x.trans x').trans .refl⟩, q2, q5⟩
      exact ⟨γ2, G2, w, [], r, rl, q3, .inl ⟨ed, rfl⟩, by rw [← he]; exact z⟩
    · refine ⟨fun σ' H' γ' G' y r q z => ?_, fun _ _ _ _ _ _ _ z => z.elim, fun _ _ _ _ _ _ _ z => z.elim, fun _ _ _ _ _ _ _ z => z.elim⟩
      exact ⟨E.h0, γ', G', D3, ho.ext y, ⟨r.f, hsg.x.trans y⟩, q, z⟩
end
end L3

end
section
/-! L3SndL: a dict's keys, walked while it is locked. -/
namespace L3
open PySem PySem.Spec PyProof.Rows L2
section
variable {X : Cx} {tg : Expr}
theorem keyW_get {κ : Type} {f : κ → W} {K : Frag} {H : Hp} : ∀ {ws : List (W × W)} {ks : List (κ × V)}, RepKV f K H ws ks → ∀ (i : Nat) (w : W), (ws.map (·.1))[i]? = some w → ∃ p, ks[i]? = some p ∧ w = f p.1
  | [], _, _, i, w, e => by simp at e
  | x :: ws, _, h, i, w, e => by
    obtain ⟨v, r, rfl, a, b, c⟩ := h
    cases i with
    | zero =>
      simp at e
      exact ⟨v, rfl, by rw [← e, a]⟩
    | succ i =>
      simp only [List.map_cons, List.getElem?_cons_succ] at e ⊢
      exact keyW_get c i w e
theorem rep_keyW {K : Frag} {H : Hp} (k : Key) : Rep K H (keyW k) (kV k) := by
  cases k with
  | inl i => exact rint
  | inr x => simp only [keyW, kV, Rep]
theorem repl_keyW {K : Frag} {H : Hp} : ∀ l : List Key, RepL K H (l.map keyW) (l.map kV)
  | [] => .nil
  | k :: l => .cons (rep_keyW k) (repl_keyW l)
theorem kItems_rd {G : Gh} {a : Nat} {all : List W} (e : kItems a G = some all) : ∃ kvs, (G a = some (.rdc kvs) ∨ G a = some (.rdt kvs)) ∧ all = kvs.map (·.1) := by
  unfold kItems at e
  cases q : G a with
  | none => rw [q] at e; cases e
  | some o =>
    rw [q] at e
    cases o with
    | rdc kvs => cases e; exact ⟨kvs, .inl rfl, rfl⟩
    | rdt kvs => cases e; exact ⟨kvs, .inr rfl, rfl⟩
    | _ => cases e
theorem simIt_keysK {K : Frag} {H0 : Hp} {a : Addr} {o : Obj} {ks : List (Key × V)} (h0 : H0 a = some (.frz o (.dK ks))) : SimIt K H0 (Itk a o ks) (kItems a) := by
  intro i H G all x r e
  have hH : H a = some (.frz o (.dK ks)) := (x a []).2.2 _ _ h0
  obtain ⟨kvs, q, rfl⟩ := kItems_rd e
  have rk : RepKV keyW K H kvs ks := by
    rcases q with q | q
    · obtain ⟨o', ks', e1, e2⟩ := r a _ q
      rw [hH] at e1; cases e1
      exact e2
    · obtain ⟨o', ks', e1, e2⟩ := r a _ q
      rw [hH] at e1; cases e1
  refine ⟨fun w ew => ?_, fun hl => ⟨hH, by rw [List.length_map, rk.length] at hl; exact hl⟩⟩
  obtain ⟨p, e1, e2⟩ := keyW_get rk i w ew
  refine ⟨⟨hH, (List.getElem?_eq_some_iff.mp e1).1⟩, fun z H' hy => ?_⟩
  obtain ⟨rfl, k, v, e3, rfl⟩ := hy
  rw [e1] at e3; cases e3
  rw [e2]
  exact ⟨.refl, r, rep_keyW k⟩
theorem simIt_keysT {K : Frag} {H0 : Hp} {a : Addr} {o : Obj} {ks : List (List Key × V)} (h0 : H0 a = some (.frz o (.dT ks))) : SimIt K H0 (Itkt a o ks) (kItems a) := by
  intro i H G all x r e
  have hH : H a = some (.frz o (.dT ks)) := (x a []).2.2 _ _ h0
  obtain ⟨kvs, q, rfl⟩ := kItems_rd e
  have rk : RepKV (fun k => W.tup (k.map keyW)) K H kvs ks := by
    rcases q with q | q
    · obtain ⟨o', ks', e1, e2⟩ := r a _ q
      rw [hH] at e1; cases e1
    · obtain ⟨o', ks', e1, e2⟩ := r a _ q
      rw [hH] at e1; cases e1
      exact e2
  refine ⟨fun w ew => ?_, fun hl => ⟨hH, by rw [List.length_map, rk.length] at hl; exact hl⟩⟩
  obtain ⟨p, e1, e2⟩ := keyW_get rk i w ew
  refine ⟨⟨hH, (List.getElem?_eq_some_iff.mp e1).1⟩, fun z H' hy => ?_⟩
  obtain ⟨rfl, k, v, q, e3, rfl, e4⟩ := hy
  rw [e1] at e3; cases e3
  rw [e2]
  refine ⟨.refl, r, ?_⟩
  simp only [Rep]
  exact ⟨q, _, rfl, e4, repl_keyW k⟩
theorem pi3_keys {e : Expr} {te : TE} (he : PE3 X e te) : PI3 X tg e (iKeys te) := fun E tk => by
  obtain ⟨t, p, q⟩ := he E tk
  refine ⟨_, pi_keys p, fun σ H γ G R3 R hs hr h3 k => ?_⟩
  refine q σ H γ G _ _ hs hr h3 fun v H1 w G1 x1 r1 rv h3 => ?_
  cases w with
  | ref a =>
    rw [rep_ref1 rv]
    cases e : G1 a with
    | none => simp only [e] at h3
    | some o =>
      cases o with
      | rdc kvs =>
        simp only [e] at h3
        obtain ⟨o', ks, e1, e2⟩ := r1 a _ e
        exact ⟨a, o', rfl, .inl ⟨ks, e1, k _ _ H1 G1 x1 r1 (simIt_keysK e1) h3⟩⟩
      | rdt kvs =>
        simp only [e] at h3
        obtain ⟨o', ks, e1, e2⟩ := r1 a _ e
        exact ⟨a, o', rfl, .inr ⟨ks, e1, k _ _ H1 G1 x1 r1 (simIt_keysT e1) h3⟩⟩
      | _ => simp only [e] at h3
  | _ => exact h3.elim
theorem Ext.unlock {K : Frag} {H H1 : Hp} {d : Addr} {od : Obj} {u : HO} (h : H d = some u) (mu : Mut (some u)) (x : Ext K (upd H d (.frz od u)) H1) : Ext K H (upd H1 d u) := fun a xs => by
  by_cases e : a = d
  · subst e
    refine ⟨fun q => ?_, fun q => by rw [h] at q; cases q; exact mu.elim, fun o v q => by rw [h] at q; cases q; exact mu.elim⟩
    rcases q with (q | ⟨o, q⟩) | q
    · rw [h] at q; cases q; exact mu.elim
    · rw [h] at q; cases q; exact mu.elim
    · exact .inr q
  · have y := x a xs
    have e1 : upd H d (.frz od u) a = H a := upd_ne e
    have e2 : upd H1 d u a = H1 a := upd_ne e
    refine ⟨fun q => ?_, fun q => ?_, fun o v q => ?_⟩
    · have q2 : SqT K (upd H d (.frz od u)) a xs := by
        rcases q with (q | ⟨o, q⟩) | q
        · exact .inl (.inl (e1.trans q))
        · exact .inl (.inr ⟨o, e1.trans q⟩)
        · exact .inr q
      rcases y.1 q2 with (q | ⟨o, q⟩) | q
      · exact .inl (.inl (e2.trans q))
      · exact .inl (.inr ⟨o, e2.trans q⟩)
      · exact .inr q
    · exact e2.trans (y.2.1 (e1.trans q))
    · exact e2.trans (y.2.2 o v (e1.trans q))
theorem kpt_unlock {H1 : Hp} {d : Addr} {od : Obj} {u : HO} (h : H1 d = some (.frz od u)) : KpT H1 (upd H1 d u) := fun a xs q => by
  rw [upd_ne (fun z => by rw [z, h] at q; cases q)]
  exact q
theorem rel_unlock {K : Frag} {H1 : Hp} {G1 : Gh} {d : Addr} {od : Obj} {u : HO} {o : O} (h : H1 d = some (.frz od u)) (r : Rel K H1 G1) (q : RelO K (upd H1 d u) d o) : Rel K (upd H1 d u) (up G1 d o) := fun b v e => by
  by_cases hb : b = d
  · subst hb; rw [up_same] at e; cases e; exact q
  · rw [up_ne hb] at e
    exact (r b v e).extT (kpt_unlock h) (upd_ne hb)
theorem lock_sim {K : Frag} {H0 : Hp} {E : Fr → XQ} {t : L2.TS} {t3 : TS} {D : L2.Ends} {D3 : Ends} {σ : St} {H : Hp} {γ : Fr} {G : Gh} {a : Addr} {u : HO} {lo un : O} (q : SimS K H0 E t t3) (hE : D3.ex = E) (ho : EndsOk K H0 H D3 D) (hs : RepS K H0 H γ σ) (hr : Rel K H G) (ha : H a = some u) (mu : Mut (some u))
    (rl : ∀ od H', Ext K H H' → H' a = some (.frz od u) → RelO K H' a lo) (ru : ∀ H', KpT H H' → H' a = some u → RelO K H' a un) (h3 : t3 (lockD a lo un D3) γ (up G a lo)) : tLock t D σ H := by
  refine ⟨a, u, ha, mu, fun od => ?_⟩
  have mH : Mut (H a) := by rw [ha]; exact mu
  have x1 : Ext K H (upd H a (.frz od u)) := .write mH
  have r1 : Rel K (upd H a (.frz od u)) (up G a lo) := hr.write mH (rl od _ x1 upd_same)
  have hz : ∀ H', Ext K (upd H a (.frz od u)) H' → H' a = some (.frz od u) := fun H' x => (x a []).2.2 _ _ upd_same
  have back : ∀ H' G', Ext K (upd H a (.frz od u)) H' → Rel K H' G' → Ext K H (upd H' a u) ∧ Rel K (upd H' a u) (up G' a un) := fun H' G' x r => ⟨.unlock ha mu x, rel_unlock (hz H' x) r (ru _ (fun b xs e => kpt_unlock (hz H' x) b xs ((x.t b xs) (x1.t b xs e))) upd_same)⟩
  have bs : ∀ σ' H' γ', Ext K (upd H a (.frz od u)) H' → RepS K H0 H' γ' σ' → RepS K H0 (upd H' a u) γ' σ' := fun σ' H' γ' x s => ⟨s.f.extT (kpt_unlock (hz H' x)), hs.x.trans (.unlock ha mu x)⟩
  refine q _ (lockD a lo un D3) σ _ γ _ hE ⟨fun σ' H' γ' G' x s r k => ?_, fun v H' w G' x r rv k => ?_, fun σ' H' γ' G' x s r k => ?_, fun σ' H' γ' G' x s r k => ?_⟩ (hs.ext x1) r1 h3
  · exact ⟨hz H' x, ho.nx _ _ _ _ (back H' G' x r).1 (bs _ _ _ x s) (back H' G' x r).2 k.2⟩
  · exact ⟨hz H' x, ho.rt _ _ _ _ (back H' G' x r).1 (back H' G' x r).2 (rv.extT (kpt_unlock (hz H' x))) k.2⟩
  · exact ⟨hz H' x, ho.bk _ _ _ _ (back H' G' x r).1 (bs _ _ _ x s) (back H' G' x r).2 k.2⟩
  · exact ⟨hz H' x, ho.ct _ _ _ _ (back H' G' x r).1 (bs _ _ _ x s) (back H' G' x r).2 k.2⟩
theorem ps3_lock {st : Stmt} {t : TS} (h : PS3 X st t) : PS3 X st (sLock t) := fun E tk => by
  obtain ⟨t2, p, q⟩ := h E tk
  refine ⟨tLock t2, ps_lock p, fun D D3 σ H γ G hE ho hs hr h3 => ?_⟩
  obtain ⟨a, kvs, h3⟩ := h3
  rcases h3 with ⟨e, h3⟩ | ⟨e, h3⟩
  · obtain ⟨ks, ha, rk⟩ := hr a _ e
    exact lock_sim (lo := .rdc kvs) (un := .dct kvs) q hE ho hs hr ha trivial (fun od H' x z => ⟨od, ks, z, rk.ext x⟩) (fun H' x z => ⟨ks, z, rk.extT x⟩) h3
  · obtain ⟨ks, ha, rk⟩ := hr a _ e
    exact lock_sim (lo := .rdt kvs) (un := .dtt kvs) q hE ho hs hr ha trivial (fun od H' x z => ⟨od, ks, z, rk.ext x⟩) (fun H' x z => ⟨ks, z, rk.extT x⟩) h3
end
end L3

end
section
/-! L3SndM: sorted of key tuples. -/
namespace L3
open PySem PySem.Spec PyProof.Rows L2
def keyD : Key → PyData
  | .inl i => .int i
  | .inr x => .str x
def kindK : Key → Bool
  | .inl _ => true
  | .inr _ => false
def encK (k : List Key) : PyData := .tuple (k.map keyD)
/-- the keys can be compared with one another -/
def AlikeK (ks : List (List Key)) : Prop := ∃ sh : List Bool, sh ≠ [] ∧ ∀ k ∈ ks, k.map kindK = sh
theorem alike_keyD : ∀ {k k' : Key}, kindK k = kindK k' → PySem.W.alike (keyD k) (keyD k') = true
  | .inl _, .inl _, _ => rfl
  | .inr _, .inr _, _ => rfl
  | .inl _, .inr _, h => by cases h
  | .inr _, .inl _, h => by cases h
theorem alike_keys : ∀ {k k' : List Key}, k.map kindK = k'.map kindK → PySem.W.alikeAll (k.map keyD) (k'.map keyD) = true
  | [], k', _ => by simp [PySem.W.alikeAll]
  | _ :: _, [], h => by cases h
  | x :: k, y :: k', h => by
    rw [List.map_cons, List.map_cons, List.cons.injEq] at h
    show (PySem.W.alike (keyD x) (keyD y) && PySem.W.alikeAll (k.map keyD) (k'.map keyD)) = true
    rw [alike_keyD h.1, alike_keys h.2]; rfl
theorem AlikeK.all {ks : List (List Key)} (h : AlikeK ks) : PySem.W.AllAlike (ks.map encK) := by
  obtain ⟨sh, _, h⟩ := h
  intro d hd d' hd'
  obtain ⟨k, hk, rfl⟩ := List.mem_map.mp hd
  obtain ⟨k', hk', rfl⟩ := List.mem_map.mp hd'
  show PySem.W.alikeAll (k.map keyD) (k'.map keyD) = true
  exact alike_keys ((h k hk).trans (h k' hk').symm)
theorem AlikeK.srt {ks : List (List Key)} (h : AlikeK ks) : PySem.W.Sortable (ks.map encK) := by
  obtain ⟨sh, hn, h⟩ := h
  refine .inl fun d hd => ?_
  obtain ⟨k, hk, rfl⟩ := List.mem_map.mp hd
  cases k with
  | nil => exact absurd (h [] hk).symm hn
  | cons x k => exact ⟨keyD x, k.map keyD, rfl⟩
theorem depth_keys : ∀ k : List Key, PyData.depthAll (k.map keyD) = 0
  | [] => by simp [PyData.depthAll]
  | x :: k => by
    rw [List.map_cons, PyData.depthAll, depth_keys k]
    cases x <;> simp [keyD, PyData.depth]
theorem reads_key {h : Heap} : ∀ {k : Key} {v : Value}, RelV (kV k) v → Reads h v (keyD k) []
  | .inl i, v, r => by obtain ⟨t, rfl⟩ := r; exact .int i t
  | .inr x, v, r => by obtain ⟨t, rfl⟩ := r; exact .str x t
theorem reads_keys {h : Heap} : ∀ {k : List Key} {vs : List Value}, Vals (k.map kV) vs → ReadsAll h vs (k.map keyD) []
  | [], _, r => by cases r; exact .nil
  | x :: k, _, r => by
    cases r with
    | cons a b => exact ReadsAll.cons (as := []) (bs := []) (reads_key a) (reads_keys b)
section
variable {X : Cx} {pins : List (Addr × Obj)} {σ : St} {H : Hp} {s : Shared}
theorem reads_keyT {q : Addr} {k : List Key} (I : Inv X pins σ H s) (hq : H q = some (.tup (k.map kV))) : Reads s.heap (.ref q) (encK k) [] := by
  obtain ⟨_, its, r, o, ho, hc, n, hd⟩ := I.hok _ _ hq
  exact reads_tuple_at ho hc hd (by rw [List.toList_toArray]; exact reads_keys r)
def KeyAt (H : Hp) (v : Value) (k : List Key) : Prop := ∃ q, v = .ref q ∧ H q = some (.tup (k.map kV))
theorem keyAt_refs : ∀ {out : List Value} {ks : List (List Key)}, PySem.W.EachIs (KeyAt H) out ks → ∃ bs : List Addr, out = bs.map Value.ref ∧ Paired (fun k b => H b = some (.tup (k.map kV))) ks bs
  | _, _, .nil => ⟨[], rfl, .nil⟩
  | _, _, .cons h t => by
    obtain ⟨q, rfl, e⟩ := h
    obtain ⟨bs, rfl, p⟩ := keyAt_refs t
    exact ⟨q :: bs, rfl, .cons e p⟩
theorem keyAt_of : ∀ {ks : List (List Key)} {bs : List Addr}, Paired (fun k b => H b = some (.tup (k.map kV))) ks bs → PySem.W.EachIs (KeyAt H) (bs.map Value.ref) ks
  | _, _, .nil => .nil
  | _, _, .cons h t => .cons ⟨_, rfl, h⟩ (keyAt_of t)
theorem sort_perm {ks : List (List Key)} : (ks.mergeSort (PySem.W.dataLe false encK)).Perm ks := List.mergeSort_perm ks _
theorem mem_paired {ks : List (List Key)} {bs : List Addr} (p : Paired (fun k b => H b = some (.tup (k.map kV))) ks bs) : ks.length = bs.length := Paired.length p
/-- sorted of a list of key tuples -/
theorem cr_sortedL (hu : X.A.units + 65 < cLine) : CallR X (.builtin "sorted") (fun xs H Q => ∃ (a : Addr) (ks : List (List Key)) (bs : List Addr), xs = [V.ref a] ∧ SqL X.K H a (bs.map V.ref) ∧ Paired (fun k b => H b = some (.tup (k.map kV))) ks bs ∧ AlikeK ks ∧
    ∀ p ks' bs', H p = none → ks' = ks.mergeSort (PySem.W.dataLe false encK) → Paired (fun k b => H b = some (.tup (k.map kV))) ks' bs' → Q (.ref p) (upd H p (.lst (bs'.map V.ref)))) := by
  intro pins s σ H xs us Q I r h
  obtain ⟨a, ks, bs, rfl, hs, pr, al, q⟩ := h
  obtain ⟨its, rv, hl, hz⟩ := I.list hs
  obtain ⟨u, rfl, ru⟩ := r.one
  cases ru
  have ei : its = bs.map Value.ref := by
    obtain ⟨e1, e2⟩ := refs_back rv fun x m => by
      obtain ⟨b, _, rfl⟩ := List.mem_map.mp m
      exact ⟨b, rfl⟩
    have : ∀ {vs : List Value} {bs : List Addr}, Vals (bs.map V.ref) vs → vs = bs.map Value.ref := by
      intro vs bs h
      induction bs generalizing vs with
      | nil => cases h; rfl
      | cons b bs ih =>
        cases h with
        | cons x y => cases x; rw [List.map_cons, ih y]
    exact this rv
  subst ei
  have ek := keyAt_of pr
  have er : PySem.W.EachIs (fun v k => ∃ as, Reads s.heap v (encK k) as) (bs.map Value.ref) ks := ek.mono fun v k ⟨q, e, hq⟩ => ⟨[], by rw [e]; exact reads_keyT I hq⟩
  have hlen : ks.length = bs.length := mem_paired pr
  have hz' : ks.length ≤ sizeLine := by rw [hlen]; rw [List.length_map] at hz; exact hz
  refine PySem.W.sorted_data (R := KeyAt H) (enc := encK) (bs := ks) hl.isList ek er al.all al.srt hz' (fun k hk => ?_) fun out ho e => ?_
  · show X.A.units + 2 + PyData.depth (.tuple (k.map keyD)) < cLine
    rw [PyData.depth, depth_keys]
    omega
  · obtain ⟨bs', rfl, p'⟩ := keyAt_refs e
    obtain ⟨kp, n, hn⟩ : (∀ b u, s.heap.get? b = some u → (sortedAll s.heap (bs.map Value.ref) (List.toArray (bs'.map Value.ref))).get? b = some u) ∧ ∃ n, (sortedAll s.heap (bs.map Value.ref) (List.toArray (bs'.map Value.ref))).get? (s.heap.objs.size + 1) = some (seqObj "list" (List.toArray (bs'.map Value.ref)) n) := ⟨fun b o e => sortedAll_old e, sortedAll_at _ _ _⟩
    refine ⟨.ref (s.heap.objs.size + 1), _, I.laid (t' := s.toks) (o := .lst (bs'.map V.ref)) kp (Nat.le_succ _) ?_, rfl, q _ _ _ (I.hok.fresh (Nat.le_succ _)) rfl p'⟩
    exact ⟨by rw [List.length_map]; have := mem_paired p'; have := (sort_perm (ks := ks)).length_eq; omega, bs'.map Value.ref, n, vals_refs _, hn⟩
/-- sorted of a dict with tuple keys -/
theorem cr_sortedD (hc : X.calm = true) (hu : X.A.units + 65 < cLine) : CallR X (.builtin "sorted") (fun xs H Q => ∃ d kvs, xs = [V.ref d] ∧ Rd H d (.dT kvs) ∧ AlikeK (kvs.map (·.1)) ∧
    ∀ p ks' bs', H p = none → ks' = (kvs.map (·.1)).mergeSort (PySem.W.dataLe false encK) → Paired (fun k b => H b = some (.tup (k.map kV))) ks' bs' → Q (.ref p) (upd H p (.lst (bs'.map V.ref)))) := by
  intro pins s σ H xs us Q I r h
  obtain ⟨d, kvs, rfl, hd, al, q⟩ := h
  obtain ⟨u, rfl, ru⟩ := r.one
  cases ru
  obtain ⟨z, hs, ks, pr, o, es, ep, ho, hx, hdt, he, hn⟩ := (show ObjOk X.prog X.w H s.heap d (.dT kvs) from hd.ok I.hok)
  have l1 : es.size = ks.length := size_of_entries he
  have l2 : kvs.length = ks.length := Paired.length pr
  refine Calls.call_function_entry kind_sorted plain_sorted entry_sorted (args_sorted1 _) ?_
  unfold Builtin.«sorted»
  refine wpAny_bind (m := checkCount "sorted" 1 1 _) (wpAny_pure ?_)
  refine wpAny_bind (PySem.W.kdu_collect (A := X.A.in1) (kdl_raw hs hx hdt) (I.ok.hd hc) ho (by omega) fun h' tk acc hk it => ?_)
  have ea : acc.toList = (ks.map fun x => x.2.1).map Value.ref := by
    have hl : acc.toList.length = ks.length := by rw [Array.length_toList, it.1]; exact l1
    rw [List.map_map]
    apply List.ext_getElem?
    intro j
    rw [List.getElem?_map]
    cases hj : acc.toList[j]? with
    | none =>
      have h1 := List.getElem?_eq_none_iff.mp hj
      rw [List.getElem?_eq_none (by omega)]
      all_goals rfl
    | some v =>
      obtain ⟨en, hen, hv⟩ := it.2 j v (by rw [← Array.getElem?_toList]; exact hj)
      have qe := entry_at he j
      rw [hen] at qe
      cases hb : ks[j]? with
      | none =>
        rw [hb] at qe
        exact nomatch (show some en = none from qe)
      | some b =>
        rw [hb] at qe
        have e2 : en = entryOfKey (tupleKind (mixKind X.prog X.w)) b := Option.some.inj qe
        rw [hv, e2]
        all_goals rfl
  have hpair : Paired (fun k b => H b = some (.tup (k.map kV))) (kvs.map (·.1)) (ks.map fun x => x.2.1) := by
    clear ea it hk hn he l1 l2 hd al q z
    induction pr with
    | nil => exact .nil
    | cons h t ih => exact .cons h.2.1 ih
  have hl : acc.toList.length = ks.length := by rw [ea, List.length_map, List.length_map]
  refine wpAny_bind (wpAny_newList ?_ (by rw [hl]; omega))
  have hk2 : ∀ b o, s.heap.get? b = some o → (h'.push { cls := .type "list", data := .seq acc.toList.toArray }).get? b = some o := fun b o e => Heap.get?_push_of_some _ (hk b o e)
  have I2 : Inv X pins σ H { s with heap := h'.push { cls := .type "list", data := .seq acc.toList.toArray }, toks := tk } := I.kept (t' := tk) hk2
  have hD : ({ s with heap := h'.push { cls := .type "list", data := .seq acc.toList.toArray }, toks := tk } : Shared).heap.get? h'.objs.size = some (seqObj "list" acc.toList.toArray 0) := Heap.get?_push_size _ rfl
  have ek : PySem.W.EachIs (KeyAt H) acc.toList (kvs.map (·.1)) := by rw [ea]; exact keyAt_of hpair
  have I1 : Inv X pins σ H { s with heap := h', toks := tk } := I.kept (t' := tk) hk
  have hg : wpAny (model X.prog X.w) X.A.in1 (call (.builtin "list.sort") [.ref h'.objs.size]) (fun _ s' => EP X pins σ Q (.ref h'.objs.size) s') X.xe { s with heap := h'.push { cls := .type "list", data := .seq acc.toList.toArray }, toks := tk } := by
    refine PySem.W.list_sort_data (R := KeyAt H) (enc := encK) (bs := kvs.map (·.1)) hD ek (ek.mono fun v k ⟨q, e, hq⟩ => ⟨[], by rw [e]; exact reads_keyT I2 hq, by simp⟩) al.all al.srt (by rw [List.length_map]; omega) (fun k hk => ?_) fun out ho e => ?_
    · show X.A.in1.units + 1 + PyData.depth (.tuple (k.map keyD)) < cLine
      have : X.A.in1.units = X.A.units + 1 := rfl
      rw [PyData.depth, depth_keys]
      omega
    · obtain ⟨bs', rfl, p'⟩ := keyAt_refs e
      obtain ⟨c, hc2⟩ := sortedHeap_at (vs := acc.toList) (out := List.toArray (bs'.map Value.ref)) hD
      have hkeep : ∀ b u, h'.get? b = some u → (sortedHeap (h'.push { cls := .type "list", data := .seq acc.toList.toArray }) h'.objs.size acc.toList (List.toArray (bs'.map Value.ref))).get? b = some u := fun b u e =>
        (sortedHeap_old (Nat.ne_of_lt (Heap.lt_size e)) (Heap.lt_size (Heap.get?_push_of_some _ e))).trans (Heap.get?_push_of_some _ e)
      refine ⟨.ref h'.objs.size, _, I1.laid (t' := tk) (o := .lst (bs'.map V.ref)) hkeep (Nat.le_refl _) ?_, rfl, q _ _ _ (I1.hok.fresh (Nat.le_refl _)) rfl p'⟩
      refine ⟨?_, bs'.map Value.ref, c, vals_refs _, hc2⟩
      rw [List.length_map]
      have h1 := mem_paired p'
      have h2 := (sort_perm (ks := kvs.map (·.1))).length_eq
      rw [List.length_map] at h2
      omega
  refine wpAny_bind (wpAny_holding (wpAny_mono hg (fun _ s' x => ?_) fun _ _ e => e))
  exact wpAny_pure ⟨_, rfl, x⟩
theorem keyOf_kinds : ∀ {k : List Key} {ws : List W}, k.map keyW = ws → ws.map kindW = (k.map kindK).map fun b => if b = true then 1 else 2
  | [], _, rfl => rfl
  | x :: k, _, rfl => by
    rw [List.map_cons, List.map_cons, List.map_cons, List.map_cons, keyOf_kinds (k := k) rfl]
    cases x <;> rfl
theorem kinds_inj : ∀ {a b : List Bool}, (a.map fun b => if b = true then 1 else 2 : List Nat) = b.map (fun b => if b = true then 1 else 2) → a = b
  | [], [], _ => rfl
  | [], _ :: _, h => by cases h
  | _ :: _, [], h => by cases h
  | x :: a, y :: b, h => by
    rw [List.map_cons, List.map_cons, List.cons.injEq] at h
    rw [kinds_inj h.2]
    cases x <;> cases y <;> simp at h ⊢
theorem alike_of {ks : List (List Key)} (h : sameK (ks.map fun k => W.tup (k.map keyW))) : AlikeK ks := by
  obtain ⟨sh, hn, h⟩ := h
  cases ks with
  | nil => exact ⟨[true], by simp, fun k hk => (nomatch hk)⟩
  | cons k ks =>
    have g : ∀ j ∈ k :: ks, (j.map kindK).map (fun b => if b = true then 1 else 2) = sh := fun j hj => by
      obtain ⟨ws, e, e2⟩ := h _ (List.mem_map.mpr ⟨j, hj, rfl⟩)
      cases e
      rw [← e2, keyOf_kinds rfl]
    refine ⟨k.map kindK, fun z => ?_, fun j hj => kinds_inj ((g j hj).trans (g k List.mem_cons_self).symm)⟩
    have := g k List.mem_cons_self
    rw [z] at this
    exact hn this.symm
theorem rep_keyT {K : Frag} {H : Hp} : ∀ {ks : List (List Key)} {bs : List Addr}, Paired (fun k b => H b = some (.tup (k.map kV))) ks bs → RepL K H (ks.map fun k => W.tup (k.map keyW)) (bs.map V.ref)
  | _, _, .nil => .nil
  | _, _, .cons h t => .cons (by simp only [Rep]; exact ⟨_, _, rfl, h, repl_keyW _⟩) (rep_keyT t)
theorem repKV_keys {K : Frag} {H : Hp} : ∀ {ws : List (W × W)} {ks : List (List Key × V)}, RepKV (fun k => W.tup (k.map keyW)) K H ws ks → ws.map (·.1) = (ks.map (·.1)).map fun k => W.tup (k.map keyW)
  | [], _, h => by cases h; rfl
  | w :: ws, _, h => by
    obtain ⟨v, r, rfl, a, b, c⟩ := h
    rw [List.map_cons, List.map_cons, List.map_cons, repKV_keys c, a]
abbrev kT (k : List Key) : W := .tup (k.map keyW)
theorem keyW_eqv : ∀ {x y : Key}, PyData.eqv (keyD x) (keyD y) = keq (keyW x) (keyW y)
  | .inl i, .inl j => by simp only [keyD, PyData.eqv, keyW, keq]; rfl
  | .inr x, .inr y => by
    simp only [keyD, PyData.eqv, keyW, keq]
    by_cases e : x = y
    · subst e; simp
    · have e2 : x.cps.toList ≠ y.cps.toList := fun h => e (by rw [← S_of x, ← S_of y, h])
      simp [e, e2]
  | .inl i, .inr y => by simp only [keyD, PyData.eqv, keyW, keq]
  | .inr x, .inl j => by simp only [keyD, PyData.eqv, keyW, keq]
theorem keyW_lt : ∀ {x y : Key}, kindK x = kindK y → PySem.W.dataLt (keyD x) (keyD y) = ltK (keyW x) (keyW y)
  | .inl i, .inl j, _ => PySem.W.dataLt_int i j
  | .inr x, .inr y, _ => PySem.W.dataLt_str x y
  | .inl _, .inr _, h => by cases h
  | .inr _, .inl _, h => by cases h
theorem ltK_conn : ∀ {x y : Key}, kindK x = kindK y → keq (keyW x) (keyW y) = false → (!ltK (keyW y) (keyW x)) = ltK (keyW x) (keyW y)
  | .inl i, .inl j, _, h => by
    have h : i ≠ j := by simpa [keyW, keq] using h
    simp only [keyW, ltK]
    by_cases e : i < j
    · rw [decide_eq_true e, decide_eq_false (by omega)]; rfl
    · rw [decide_eq_false e, decide_eq_true (by omega)]; rfl
  | .inr x, .inr y, _, h => by
    have h : x.cps.toList ≠ y.cps.toList := by simpa [keyW, keq] using h
    simp only [keyW, ltK]
    by_cases e : x.cps.toList < y.cps.toList
    · rw [decide_eq_true e, decide_eq_false (fun z => List.lt_asymm e z)]; rfl
    · rw [decide_eq_false e]
      have : y.cps.toList < x.cps.toList := by
        have h1 : y.cps.toList ≤ x.cps.toList := List.not_lt.mp e
        rcases List.le_iff_lt_or_eq.mp h1 with a | a
        · exact a
        · exact absurd a.symm h
      rw [decide_eq_true this]; rfl
  | .inl _, .inr _, h, _ => by cases h
  | .inr _, .inl _, h, _ => by cases h
theorem le_keys : ∀ {k k' : List Key}, k.map kindK = k'.map kindK → (!PyProof.Rows.lexLt itemOrd (PySem.W.keyToksAll (k'.map keyD)) (PySem.W.keyToksAll (k.map keyD))) = leKs (k.map keyW) (k'.map keyW)
  | [], [], _ => rfl
  | [], _ :: _, h => by cases h
  | _ :: _, [], h => by cases h
  | x :: k, y :: k', h => by
    rw [List.map_cons, List.map_cons, List.cons.injEq] at h
    rw [List.map_cons, List.map_cons, List.map_cons, List.map_cons, PySem.W.dataLt_cons (alike_keyD h.1.symm), keyW_eqv]
    simp only [leKs]
    rw [show keq (keyW y) (keyW x) = keq (keyW x) (keyW y) by cases x <;> cases y <;> simp [keyW, keq, eq_comm]]
    cases e : keq (keyW x) (keyW y) with
    | true =>
      rw [if_pos rfl, if_pos rfl]
      exact le_keys h.2
    | false =>
      rw [if_neg (by decide), if_neg (by decide), keyW_lt h.1.symm]
      exact ltK_conn h.1 e
theorem sort_keys {ks : List (List Key)} (h : AlikeK ks) : (ks.mergeSort (PySem.W.dataLe false encK)).map kT = sortK (ks.map kT) := by
  obtain ⟨sh, _, h⟩ := h
  refine List.map_mergeSort fun a ha b hb => ?_
  have : PySem.W.dataLe false encK a b = !PySem.W.dataLt (encK b) (encK a) := rfl
  rw [this]
  show (!PySem.W.dataLt (.tuple (b.map keyD)) (.tuple (a.map keyD))) = _
  rw [PySem.W.dataLt_tuple]
  exact le_keys ((h a ha).trans (h b hb).symm)
theorem reps_key {K : Frag} {H : Hp} : ∀ {us : List W} {xs : List V}, us.all key1 = true → RepL K H us xs → us = (us.map keyOf).map keyW ∧ xs = (us.map keyOf).map kV
  | [], _, _, h => ⟨rfl, h⟩
  | u :: us, _, hk, h => by
    obtain ⟨v, r, rfl, a, b⟩ := h
    rw [List.all_cons, Bool.and_eq_true] at hk
    obtain ⟨e1, e2⟩ := reps_key hk.2 b
    refine ⟨?_, ?_⟩
    · rw [List.map_cons, List.map_cons, keyOf_keyW hk.1, ← e1]
    · rw [List.map_cons, List.map_cons, key_rep a hk.1, ← e2]
theorem keyT_list {K : Frag} {H : Hp} : ∀ {ws : List W} {xs : List V}, ws.all keyT = true → RepL K H ws xs → ∃ (ks : List (List Key)) (bs : List Addr), ws = ks.map kT ∧ xs = bs.map V.ref ∧ Paired (fun k b => H b = some (.tup (k.map kV))) ks bs
  | [], _, _, h => ⟨[], [], rfl, h, .nil⟩
  | w :: ws, _, hk, h => by
    obtain ⟨v, r, rfl, a, b⟩ := h
    rw [List.all_cons, Bool.and_eq_true] at hk
    obtain ⟨ks, bs, rfl, rfl, p⟩ := keyT_list hk.2 b
    cases w with
    | tup us =>
      have hu : us.all key1 = true := hk.1
      simp only [Rep] at a
      obtain ⟨q, xs, rfl, e, r⟩ := a
      obtain ⟨e1, e2⟩ := reps_key hu r
      refine ⟨us.map keyOf :: ks, q :: bs, ?_, rfl, .cons (by rw [e, e2]) p⟩
      rw [List.map_cons, kT, ← e1]
    | _ => cases hk.1
theorem callR_or {X : Cx} {f : Value} {a b : List V → Hp → VK → Prop} (h1 : CallR X f a) (h2 : CallR X f b) : CallR X f (fun xs H Q => a xs H Q ∨ b xs H Q) := fun pins s σ H xs us Q I r h => h.elim (h1 pins s σ H xs us Q I r) (h2 pins s σ H xs us Q I r)
/-- a list or a dict -/
theorem b_sorted {X : Cx} (hu : X.A.units + 65 < cLine) (hc : X.calm = true) : CallR3 X (.builtin "sorted") bSortd := by
  have both := callR_or (cr_sortedD (X := X) hc hu) (cr_sortedL hu)
  refine ⟨_, both, fun ws vs H G Q3 Q r rv h k => ?_⟩
  simp only [bSortd] at h
  split at h
  · rename_i a
    obtain ⟨v, rfl, e⟩ := repl1 rv
    rw [rep_ref1 e]
    split at h
    · rename_i kvs eq
      obtain ⟨ks, s1, s2⟩ := r a _ eq
      have ek := repKV_keys s2
      have al := alike_of (by rw [← ek]; exact h.1)
      refine .inl ⟨a, ks, rfl, .inl s1, al, fun p ks' bs' hp pm pr => ?_⟩
      refine k _ _ _ _ (.new hp) (r.new (o := .lst (ks'.map kT)) hp ⟨_, upd_same, (rep_keyT pr).ext (.new hp)⟩) rref (h.2 p _ (r.free hp) ?_)
      rw [ek, pm]
      exact sort_keys al
    · rename_i l eq
      obtain ⟨xs, s1, s2⟩ := r a _ eq
      obtain ⟨ks, bs, rfl, rfl, pr⟩ := keyT_list h.2.1 s2
      · have al := alike_of (ks := ks) h.1
        refine .inr ⟨a, ks, bs, rfl, .inl (.inl s1), pr, al, fun p ks' bs' hp pm pr' => ?_⟩
        refine k _ _ _ _ (.new hp) (r.new (o := .lst (ks'.map kT)) hp ⟨_, upd_same, (rep_keyT pr').ext (.new hp)⟩) rref (h.2.2 p _ (r.free hp) ?_)
        rw [pm]
        exact sort_keys al
    · exact h.elim
  · exact h.elim
end
end L3

end
section
/-! L3SndN: except C as e, and isinstance(e, c). -/
namespace L3
open PySem PySem.Spec PyProof.Rows L2
section
variable {X : Cx}
theorem ps3_tryAs {x n : Str} {i : Nat} {C : Addr} {B newId initId : String} {bm : List Value} {body suite : List Stmt} {b₀ : Stmt} {np pos pos' : Pos} {tb : TS} {th : Nat → TS} (c : ExCls X.K X.mg x C B newId initId bm) (hs : X.stack = X.env :: X.outer) (hf : X.env.frame = some X.env.locals) (hN : X.N.Nodup) (hi : X.N[i]? = some n) (hln : X.env.kindOf n = some .local) (hg : Gl X x)
    (hb : ∀ pn xe, PassesOwn (model X.prog X.w) X.A X.env xe → PSs3 (X.tr pn xe) body tb) (hh : ∀ (a : Addr) (oe : Obj) (pn : List (Addr × Obj)), Zc (.ref C) none oe → (∃ vs, oe.data = .fields vs) → HotM (X.suite a ((a, oe) :: pn)) → PSs3 (X.suite a ((a, oe) :: pn)) (b₀ :: suite) (th a)) (hdb : (x == ("__debug__" : Str)) = false := by decide) :
    PS3 X (.Try body [.ExceptHandler (some (.Name x np)) (some n) (b₀ :: suite) pos'] [] [] pos) (sTryAs C i tb th) := fun E tk => by
  let wb : WX → L2.TS := fun W D σ H => ∃ γ G D3, (∀ cls d σ' H', Ext X.K H H' → lowX X.K ⟨D3.ex, H⟩ cls d σ' H' → W cls d σ' H') ∧ EndsOk X.K H H D3 D ∧ RepS X.K H H γ σ ∧ Rel X.K H G ∧ tb D3 γ G
  let ws : Addr → Value → Option Addr → L2.TS := fun a cls d D σ H => cls = .ref C ∧ d = none ∧ ∃ Z0 γ G D3, EndsOk X.K Z0 H D3 D ∧ RepS X.K Z0 H γ σ ∧ Rel X.K H G ∧ th a { D3 with ex := fun _ => X0 } γ G
  refine ⟨_, ps_tryAsM (c := .ref C) (tb := wb) (ts := ws) hs hf hN hi hln ⟨hg, hdb, .inl c.mgC⟩ tk (fun W pn xe tkW hp => ⟨fun pins s σ H D I hw => ?_⟩) (fun a oe cls d pn hz hv hot => ⟨fun pins s σ H D I hw => ?_⟩), fun D D3 σ H γ G he ho hsg hr h3 => ?_⟩
  · obtain ⟨γ, G, D3, hle, hends, hr1, hr2, h3⟩ := hw
    have tk' : TakesE (X.tr pn xe) ⟨D3.ex, H⟩ := tkM_imp tkW fun cls d σ' H' z => by
      obtain ⟨γ', G', w, es, q1, q2, q3, q4, q5⟩ := z
      exact hle cls d σ' H' q1.x ⟨γ', G', w, es, q1, q2, q3, q4, q5⟩
    obtain ⟨t, p, q⟩ := hb pn xe hp ⟨D3.ex, H⟩ tk'
    exact p.run pins s σ H D I (q D D3 σ H γ G rfl hends hr1 hr2 h3)
  · obtain ⟨rfl, rfl, Z0, γ, G, D3, hends, hr1, hr2, h3⟩ := hw
    obtain ⟨t, p, q⟩ := hh a oe pn hz hv hot ⟨fun _ => X0, Z0⟩ (takes0E Z0)
    exact p.run pins s σ H D I (q D { D3 with ex := fun _ => X0 } σ H γ G rfl ⟨hends.nx, hends.rt, hends.bk, hends.ct⟩ hr1 hr2 h3)
  · refine ⟨γ, G, { D3 with ex := fun γ' w es G' => (match w with | .ref c => c = C ∧ es = [] ∧ ∀ a, G' a = none → th a { nx := fun γ2 G2 => D3.nx (del γ2 i) G2, rt := D3.rt, bk := fun γ2 G2 => D3.bk (del γ2 i) G2, ct := fun γ2 G2 => D3.ct (del γ2 i) G2, ex := fun _ => X0 } (put γ' i (.ref a)) G' | _ => False) }, fun cls d σ' H' x' z => ?_, ?_, ⟨hsg.f, .refl⟩, hr, h3⟩
    · obtain ⟨γ', G', w, es, q1, q2, q3, q4, q5⟩ := z
      simp only at q5
      split at q5
      · obtain ⟨rfl, rfl, q5⟩ := q5
        cases q3
        have hd : d = none := by
          rcases q4 with ⟨q, _⟩ | ⟨_, _, q⟩
          · exact q
          · cases q
        refine ⟨true, c.te, fun _ a ha => ⟨rfl, hd, E.h0, put γ' i (.ref a), G', { nx := fun γ2 G2 => D3.nx (del γ2 i) G2, rt := D3.rt, bk := fun γ2 G2 => D3.bk (del γ2 i) G2, ct := fun γ2 G2 => D3.ct (del γ2 i) G2, ex := fun _ => X0 }, ?_, ?_, q2, q5 a (q2.free ha)⟩, fun z => nomatch z⟩
        · have ho' := ho.ext x'
          exact ⟨fun σ2 H2 γ2 G2 y r q z => ho'.nx _ H2 _ G2 y r.del q z, ho'.rt, fun σ2 H2 γ2 G2 y r q z => ho'.bk _ H2 _ G2 y r.del q z, fun σ2 H2 γ2 G2 y r q z => ho'.ct _ H2 _ G2 y r.del q z⟩
        · exact RepS.put ⟨q1.f, hsg.x.trans x'⟩ rref
      · exact q5.elim
    · exact ⟨fun σ' H' γ' G' y r q z => ho.nx σ' H' γ' G' y ⟨r.f, hsg.x.trans y⟩ q z, ho.rt, fun σ' H' γ' G' y r q z => ho.bk σ' H' γ' G' y ⟨r.f, hsg.x.trans y⟩ q z, fun σ' H' γ' G' y r q z => ho.ct σ' H' γ' G' y ⟨r.f, hsg.x.trans y⟩ q z⟩
/-- isinstance of a caught error -/
theorem b_isE {a D : Addr} {oe : Obj} {pn : List (Addr × Obj)} {c : W} {cv : Value} {b : Bool} (C : ExcC X.K D) (hz : Zc (.ref D) none oe) (hf : ∃ vs, oe.data = .fields vs) (hc : ∀ H v, Rep X.K H c v → ∀ u, RelV v u → u = cv) (hk : PySem.W.kitOne X.K (.ref D) cv = some b) : CallR3 (X.suite a ((a, oe) :: pn)) (.builtin "isinstance") (bIsE a c b) := by
  refine ⟨_, call_isE C hz hf, fun ws vs H G Q3 Q r rv h k => ?_⟩
  simp only [bIsE] at h
  split at h
  · obtain ⟨rfl, rfl, h⟩ := h
    obtain ⟨v, u, rfl, r1, r2⟩ := repl2 rv
    rw [rep_ref1 r1]
    exact ⟨u, cv, b, rfl, hc H u r2, hk, k _ _ _ _ .refl r rbl h⟩
  · exact h.elim
theorem isC_ref {K : Frag} {b : Nat} : ∀ H v, Rep K H (.ref b) v → ∀ u, RelV v u → u = Value.ref b := fun H v r u e => by
  rw [rep_ref1 r] at e
  exact e
theorem isC_ty {K : Frag} {t : String} : ∀ H v, Rep K H (.ty t) v → ∀ u, RelV v u → u = Value.type t := fun H v r u e => by
  simp only [Rep] at r
  subst r
  exact e
theorem o_isl : OpR3 X (compareOp .Is) rIsL := by
  refine ⟨_, op_is_bl, fun x y v u H G Q3 Q r rv ru h k => ?_⟩
  simp only [rIsL] at h
  split at h
  · split at h
    · exact ⟨_, _, rep_bl rv, rep_bl ru, k _ H _ G .refl r rbl h⟩
    · exact h.elim
  · exact h.elim
theorem o_isln : OpR3 X (compareOp .IsNot) rIsLN := by
  refine ⟨_, op_isnot_bl, fun x y v u H G Q3 Q r rv ru h k => ?_⟩
  simp only [rIsLN] at h
  split at h
  · split at h
    · exact ⟨_, _, rep_bl rv, rep_bl ru, k _ H _ G .refl r rbl h⟩
    · exact h.elim
  · exact h.elim
theorem S_decI (i : Int) : (toString i : Str) = S (decI i) := Str.ofString_eq_toList _
theorem b_str : CallR3 X (.type "str") bStr := by
  have cl : CallR X (.type "str") (fun xs H Q => (∃ i, xs = [.int i] ∧ i.natAbs.log2 < 1920 ∧ Q (.str (toString i)) H) ∨ (∃ a, xs = [.str a] ∧ Q (.str a) H) ∨ (∃ b : Bool, xs = [.bl b] ∧ Q (.str (if b then "True" else "False")) H)) := by
    intro pins s σ H xs us Q I r h
    rcases h with h | h | h
    · exact call_str_int pins s σ H xs us Q I r h
    · exact SkE.call_str_str pins s σ H xs us Q I r h
    · obtain ⟨b, rfl, q⟩ := h
      obtain ⟨u, rfl, e⟩ := vals1 r
      cases e
      exact PySem.P.str_of_bool ⟨.str _, H, I.tok _, ⟨_, rfl⟩, q⟩
  refine ⟨_, cl, fun ws vs H G Q3 Q r rv h k => ?_⟩
  simp only [bStr] at h
  split at h
  · obtain ⟨v, rfl, e⟩ := repl1 rv
    rw [rep_int1 e]
    refine .inl ⟨_, rfl, h.1, ?_⟩
    rw [S_decI]
    exact k _ _ _ _ .refl r rstr h.2
  · obtain ⟨v, rfl, e⟩ := repl1 rv
    rw [rep_str1 e]
    exact .inr (.inl ⟨_, rfl, k _ _ _ _ .refl r rstr h⟩)
  · rename_i b
    obtain ⟨v, rfl, e⟩ := repl1 rv
    rw [rep_bl e]
    refine .inr (.inr ⟨b, rfl, k _ H _ G .refl r ?_ h⟩)
    cases b <;> (simp only [Rep]; rfl)
  · exact h.elim
theorem simI_lst {E : EX} {t : L2.TE} {te : TE} (q : SimE X.K E.h0 t fun γ G Q => te γ G (E γ) Q) : SimI X.K E.h0 (iList X.K t) fun γ G R => iLst te γ G (E γ) R := by
  intro σ H γ G R3 R hs hr h3 k
  refine q σ H γ G _ _ hs hr h3 fun v H1 w G1 x1 r1 rv h3 => ?_
  cases w with
  | ref a =>
    simp only [Rep] at rv
    subst rv
    have hq : ∃ xs, SqL X.K H1 a xs := by
      cases q : G1 a with
      | none => have z := h3.2.1; simp only [items, q] at z; cases z
      | some o =>
        cases o with
        | lst ws => obtain ⟨xs, e, _⟩ := r1.seq (.inl q); exact ⟨xs, e⟩
        | rdl ws => obtain ⟨xs, e, _⟩ := r1.seq (.inr q); exact ⟨xs, e⟩
        | _ => have z := h3.2.1; simp only [items, q] at z; cases z
    exact ⟨a, rfl, hq, k _ _ H1 G1 x1 r1 simIt_list h3.2.2⟩
  | _ => exact h3.1.elim
theorem pi3_lst {tg l : Expr} {tl : TE} (h : PE3 X l tl) : PI3 X tg l (iLst tl) := fun E tk => by
  obtain ⟨t, p, q⟩ := h E tk
  exact ⟨_, pi_list p, simI_lst q⟩
theorem pg3_subL {o i : Expr} {to ti : TE} {pos : Pos} (ho : PE3 X o to) (hi : PE3 X i ti)
    (ha : ∀ v, assign (.Subscript o i pos) X.env v = (do
      let ov ← holding [v] (eval o X.env)
      let iv ← holding [v, ov] (eval i X.env)
      standAt pos
      holding [v, ov, iv] (setItem ov iv v)
      release [v, ov, iv] []) := by intro _; rfl) : PG3 X (.Subscript o i pos) [] (gSubL to ti) := by
  refine ⟨_, pg_sub (ho.can (E := fun _ => X0) takes0E) (hi.can (E := fun _ => X0) takes0E) set_list ha, ?_⟩
  intro Z0 v w σ H γ G Q3 Q hs hr rv h3 k
  refine ⟨Z0, γ, G, _, hs, hr, h3, fun v2 H2 w2 G2 x2 r2 rv2 h3 => ?_⟩
  refine ⟨Z0, γ, G2, _, hs.ext x2, r2, h3, fun v3 H3 w3 G3 x3 r3 rv3 h3 => ?_⟩
  have y := x2.trans x3
  cases w2 with
  | ref a =>
    simp only at h3
    split at h3
    · rename_i ws eq
      cases w3 with
      | int j =>
        obtain ⟨xs, s1, s2⟩ := r3.lst eq
        have m : Mut (H3 a) := by rw [s1]; trivial
        simp only at h3
        cases e : ixn ws.length j with
        | none => rw [e] at h3; exact h3.elim
        | some n =>
          rw [e] at h3
          refine ⟨a, xs, j, n, rep_ref1 rv2, rep_int1 rv3, s1, by rw [ixn_eq, ← s2.length]; exact e, ?_⟩
          exact k σ _ γ _ (y.trans (.write m)) (hs.ext (y.trans (.write m))) (r3.write (o := .lst (ws.set n w)) m ⟨_, upd_same, (s2.set n (rv.ext y)).ext (.write m)⟩) .refl h3
      | _ => exact h3.elim
    · exact h3.elim
  | _ => exact h3.elim
end
end L3

end
section
/-! L3SndP: dicts that the module writes; zip of lists and tuples. -/
namespace L3
open PySem PySem.Spec PyProof.Rows L2
/-! ### a dict of the module -/
def kdB (K : Frag) : KD → List DictEntry → Bool
  | [], es => es.isEmpty
  | p :: r, es => (match es with
    | e :: q => (match e.key with | .str x _ => decide (x.cps.toList = p.1) | _ => false) && repB K 60 p.2 e.val && kdB K r q
    | [] => false)
theorem kdB_find {K : Frag} : ∀ {d : KD} {es : List DictEntry}, kdB K d es = true → ∀ z : List Nat, match lookS d z with
    | some w => ∃ u, (es.find? fun e => Value.isStrOf (S z) e.key).map (·.val) = some u ∧ ∃ v, RelV v u ∧ ∀ H, Rep K H w v
    | none => (es.find? fun e => Value.isStrOf (S z) e.key).map (·.val) = none
  | [], es, h, z => by
    unfold kdB at h
    cases es with
    | nil => rfl
    | cons _ _ => cases h
  | p :: r, es, h, z => by
    unfold kdB at h
    cases es with
    | nil => cases h
    | cons e q =>
      simp only [Bool.and_eq_true] at h
      obtain ⟨⟨h1, h2⟩, h3⟩ := h
      split at h1
      · rename_i x t ek
        have e1 := of_decide_eq_true h1
        have ex : x = S p.1 := by rw [← e1]; rfl
        have hk : Value.isStrOf (S z) e.key = decide (p.1 = z) := by
          rw [ek, ex]
          show (S p.1 == S z) = _
          by_cases q : p.1 = z
          · subst q; simp
          · rw [decide_eq_false q]
            refine beq_eq_false_iff_ne.mpr fun w => q ?_
            have := congrArg (fun s : Str => s.cps.toList) w
            simpa [S] using this
        rw [List.find?_cons, hk]
        unfold lookS
        by_cases q : p.1 = z
        · rw [if_pos q, decide_eq_true q]
          obtain ⟨v, g1, g2⟩ := repB_ok _ _ _ h2
          exact ⟨e.val, rfl, v, g1, g2⟩
        · rw [if_neg q, decide_eq_false q]
          exact kdB_find h3 z
      · cases h1
structure Kdt (K : Frag) (w : World) (mg : Str → Option Value) (x : Str) (d : KD) : Prop where
  ex : ∃ (a : Addr) (es : Array DictEntry) (n : Nat), mg x = some (.ref a) ∧ KDict K w a es n ∧ kdB K d es.toList = true
def kdA (K : Frag) (d : KD) (u : Value) : Bool := match u with
  | .ref a => (a != sysModules) && (match K.lookup a with
    | some ⟨.type "dict", none, .dict es _, sl⟩ => sl.isEmpty && kdB K d es.toList
    | _ => false)
  | _ => false
section
variable {X : Cx} {x : Str} {d : KD} {e : Expr} {ty : TE} {p apos cpos : Pos}
theorem find_kd {K : Frag} {d : KD} {es : Array DictEntry} (h : kdB K d es.toList = true) (z : List Nat) : match lookS d z with
    | some w => ∃ u, findBy Value.isStrOf es (S z) = some u ∧ ∃ v, RelV v u ∧ ∀ H, Rep K H w v
    | none => findBy Value.isStrOf es (S z) = none := by
  have := kdB_find h z
  unfold findBy
  obtain ⟨l⟩ := es
  rw [List.find?_toArray]
  exact this
def tKget (K : Frag) (d : KD) (ty : L2.TE) : L2.TE := fun σ H Q => ty σ H fun y H1 => ∃ z : List Nat, y = .str (S z) ∧ ∀ v, (∀ H', Rep K H' ((lookS d z).getD .non) v) → Q v H1
theorem pe_kget {tu : L2.TE} (D : Kdt X.K X.w X.mg x d) (hg : Gl X x) (he : PE X e tu) (m : M1 X (.Name x p) "get" apos e cpos) (hd : (x == ("__debug__" : Str)) = false) : PE X (.Call (.Attribute (.Name x p) "get" apos) [e] [] cpos) (tKget X.K d tu) := by
  obtain ⟨a, es, n, h1, KD0, h2⟩ := D.ex
  refine ⟨fun pins s σ H Q I h => ?_⟩
  refine wpAny_Call_method m.base m.few m.line PySem.F.plainAttrs_dict PySem.F.slot_dict_get PySem.F.type_dict_get (ld_glob I hg h1 ?_ hd)
  have hm := PySem.W.mapOf_K (prog := X.prog) (w := X.w) I.kIn KD0.at_ KD0.lit
  refine ⟨hm.typeIs, hm.noDict, ?_⟩
  rw [m.trees]
  refine Calls.callWith_builtin rfl (Calls.evalArgs_plain (Calls.spliced_cons (thn (he.run pins s σ H _ I h) fun iv s2 ⟨y, H2, I2, ry, z, ey, q2⟩ => Calls.spliced_nil ?_)))
  subst ey
  obtain ⟨t, rfl⟩ := ry
  have hm2 := PySem.W.mapOf_K (prog := X.prog) (w := X.w) I2.kIn KD0.at_ KD0.lit
  refine call_meetsIn PySem.F.slot_dict_get hm2.typeIs PySem.F.entry_dict_get (PySem.F.args_dict_get_2 _ _) (meets_dict_get (strKind X.prog X.w) a (PySem.strKind_is X.prog X.w (S z) t) KD0.low) ⟨_, hm2, ?_⟩
  have hf := find_kd h2 z
  cases el : lookS d z with
  | none =>
    rw [el] at hf
    simp only at hf
    rw [hf]
    exact ⟨.non, H2, I2.tok _, rfl, q2 _ fun H' => by rw [el]; simp only [Option.getD, Rep]⟩
  | some w =>
    rw [el] at hf
    obtain ⟨u, hu, v, rv, rw'⟩ := hf
    rw [hu]
    exact ⟨v, H2, I2.tok _, rv, q2 _ fun H' => by rw [el]; exact rw' H'⟩
theorem pe3_kget (D : Kdt X.K X.w X.mg x d) (he : PE3 X e ty) (hg : Gl X x) (m : M1 X (.Name x p) "get" apos e cpos := by exact ⟨rfl, rfl, rfl, rfl⟩) (hd : (x == ("__debug__" : Str)) = false := by decide) : PE3 X (.Call (.Attribute (.Name x p) "get" apos) [e] [] cpos) (eKget d ty) := fun E tk => by
  obtain ⟨u, p2, q2⟩ := he E tk
  refine ⟨_, pe_kget D hg p2 m hd, fun σ H γ G Q3 Q hs hr h3 k => ?_⟩
  refine q2 σ H γ G _ _ hs hr h3 fun v2 H2 w2 G2 x2 r2 rv2 h3 => ?_
  cases w2 with
  | str z => exact ⟨z, rep_str1 rv2, fun v hv => k _ H2 _ G2 x2 r2 (hv H2) h3⟩
  | _ => exact h3.elim
def tKix (K : Frag) (d : KD) (ty : L2.TE) : L2.TE := fun σ H Q => ty σ H fun y H1 => ∃ (z : List Nat) (w : W), y = .str (S z) ∧ lookS d z = some w ∧ ∀ v, (∀ H', Rep K H' w v) → Q v H1
theorem pe_kix {tu : L2.TE} (D : Kdt X.K X.w X.mg x d) (hg : Gl X x) (he : PE X e tu) (hs : PlainIx e) (hd : (x == ("__debug__" : Str)) = false) : PE X (.Subscript (.Name x p) e cpos) (tKix X.K d tu) := by
  obtain ⟨a, es, n, h1, KD0, h2⟩ := D.ex
  refine ⟨fun pins s σ H Q I h => ?_⟩
  refine Subscript_ (ld_glob I hg h1 ?_ hd)
  refine thn (he.run pins s σ H _ I h) fun u s2 ⟨y, H2, I2, ry, q⟩ => ?_
  obtain ⟨z, w, ey, el, q⟩ := q
  subst ey
  obtain ⟨t, rfl⟩ := ry
  have hm2 := PySem.W.mapOf_K (prog := X.prog) (w := X.w) I2.kIn KD0.at_ KD0.lit
  have hf := find_kd h2 z
  rw [el] at hf
  obtain ⟨u, hu, v, rv, rw'⟩ := hf
  exact tail_any hm2.typeIs slot_dict_getitem.lookup (wpAny_getItem_of (strKind_is X.prog X.w (S z) t) hm2 hu ⟨v, H2, I2.tok _, rv, q v rw'⟩) (hs _ _)
theorem pe3_kix (D : Kdt X.K X.w X.mg x d) (he : PE3 X e ty) (hg : Gl X x) (hs : PlainIx e := by exact fun _ _ => rfl) (hd : (x == ("__debug__" : Str)) = false := by decide) : PE3 X (.Subscript (.Name x p) e cpos) (eKix d ty) := fun E tk => by
  obtain ⟨u, p2, q2⟩ := he E tk
  refine ⟨_, pe_kix D hg p2 hs hd, fun σ H γ G Q3 Q hs hr h3 k => ?_⟩
  refine q2 σ H γ G _ _ hs hr h3 fun v2 H2 w2 G2 x2 r2 rv2 h3 => ?_
  cases w2 with
  | str z =>
    dsimp only at h3
    split at h3
    · rename_i w el
      exact ⟨z, w, rep_str1 rv2, el, fun v hv => k _ H2 _ G2 x2 r2 (hv H2) h3⟩
    · exact h3.elim
  | _ => exact h3.elim
/-- k in X, k not in X -/
theorem pe_kin {tu : L2.TE} (D : Kdt X.K X.w X.mg x d) (hg : Gl X x) (he : PE X e tu) (hd : (x == ("__debug__" : Str)) = false) (hm : behindInMarks .In (.Name x p) = false) : PE X (.Compare e [.In] [.Name x p] cpos) (fun σ H Q => tu σ H fun y H1 => ∃ z : List Nat, y = .str (S z) ∧ Q (.bl (lookS d z).isSome) H1) := by
  obtain ⟨a, es, n, h1, KD0, h2⟩ := D.ex
  refine ⟨fun pins s σ H Q I h => ?_⟩
  refine wpAny_Compare1 (thn (he.run pins s σ H _ I h) fun u s2 ⟨y, H2, I2, ry, z, ey, q⟩ => ld_glob I2 hg h1 ?_ hd) hm
  subst ey
  obtain ⟨t, rfl⟩ := ry
  have hm2 := PySem.W.mapOf_K (prog := X.prog) (w := X.w) I2.kIn KD0.at_ KD0.lit
  refine wpAny_in_of (PySem.strKind_is X.prog X.w (S z) t) KD0.low hm2 ?_
  have hf := find_kd h2 z
  cases el : lookS d z with
  | none => rw [el] at hf q; simp only at hf; rw [hf]; exact ⟨.bl false, H2, I2.tok _, rfl, q⟩
  | some w => rw [el] at hf q; obtain ⟨u, hu, _⟩ := hf; rw [hu]; exact ⟨.bl true, H2, I2.tok _, rfl, q⟩
theorem pe_knin {tu : L2.TE} (D : Kdt X.K X.w X.mg x d) (hg : Gl X x) (he : PE X e tu) (hd : (x == ("__debug__" : Str)) = false) (hm : behindInMarks .NotIn (.Name x p) = false) : PE X (.Compare e [.NotIn] [.Name x p] cpos) (fun σ H Q => tu σ H fun y H1 => ∃ z : List Nat, y = .str (S z) ∧ Q (.bl (!(lookS d z).isSome)) H1) := by
  obtain ⟨a, es, n, h1, KD0, h2⟩ := D.ex
  refine ⟨fun pins s σ H Q I h => ?_⟩
  refine wpAny_Compare1 (thn (he.run pins s σ H _ I h) fun u s2 ⟨y, H2, I2, ry, z, ey, q⟩ => ld_glob I2 hg h1 ?_ hd) hm
  subst ey
  obtain ⟨t, rfl⟩ := ry
  have hm2 := PySem.W.mapOf_K (prog := X.prog) (w := X.w) I2.kIn KD0.at_ KD0.lit
  refine wpAny_notIn_of (PySem.strKind_is X.prog X.w (S z) t) KD0.low hm2 ?_
  have hf := find_kd h2 z
  cases el : lookS d z with
  | none => rw [el] at hf q; simp only at hf; rw [hf]; exact ⟨.bl true, H2, I2.tok _, rfl, q⟩
  | some w => rw [el] at hf q; obtain ⟨u, hu, _⟩ := hf; rw [hu]; exact ⟨.bl false, H2, I2.tok _, rfl, q⟩
theorem pe3_kin (D : Kdt X.K X.w X.mg x d) (he : PE3 X e ty) (hg : Gl X x) (hm : behindInMarks .In (.Name x p) = false := by rfl) (hd : (x == ("__debug__" : Str)) = false := by decide) : PE3 X (.Compare e [.In] [.Name x p] cpos) (eKin d ty) := fun E tk => by
  obtain ⟨u, p2, q2⟩ := he E tk
  refine ⟨_, pe_kin D hg p2 hd hm, fun σ H γ G Q3 Q hs hr h3 k => ?_⟩
  refine q2 σ H γ G _ _ hs hr h3 fun v2 H2 w2 G2 x2 r2 rv2 h3 => ?_
  cases w2 with
  | str z => exact ⟨z, rep_str1 rv2, k _ H2 _ G2 x2 r2 rbl h3⟩
  | _ => exact h3.elim
theorem pe3_knin (D : Kdt X.K X.w X.mg x d) (he : PE3 X e ty) (hg : Gl X x) (hm : behindInMarks .NotIn (.Name x p) = false := by rfl) (hd : (x == ("__debug__" : Str)) = false := by decide) : PE3 X (.Compare e [.NotIn] [.Name x p] cpos) (eKnin d ty) := fun E tk => by
  obtain ⟨u, p2, q2⟩ := he E tk
  refine ⟨_, pe_knin D hg p2 hd hm, fun σ H γ G Q3 Q hs hr h3 k => ?_⟩
  refine q2 σ H γ G _ _ hs hr h3 fun v2 H2 w2 G2 x2 r2 rv2 h3 => ?_
  cases w2 with
  | str z => exact ⟨z, rep_str1 rv2, k _ H2 _ G2 x2 r2 rbl h3⟩
  | _ => exact h3.elim
theorem pt_kin {tu : L2.TE} (D : Kdt X.K X.w X.mg x d) (hg : Gl X x) (he : PE X e tu) (hd : (x == ("__debug__" : Str)) = false) (hm : behindInMarks .In (.Name x p) = false) : PT X (.Compare e [.In] [.Name x p] cpos) (fun σ H Q => tu σ H fun y H1 => ∃ z : List Nat, y = .str (S z) ∧ Q ((lookS d z).isSome) H1) := by
  obtain ⟨a, es, n, h1, KD0, h2⟩ := D.ex
  refine ⟨fun pins s σ H Q I h => ?_⟩
  refine wpAny_isTrue_Compare1 (thn (he.run pins s σ H _ I h) fun u s2 ⟨y, H2, I2, ry, z, ey, q⟩ => ld_glob I2 hg h1 ?_ hd) hm
  subst ey
  obtain ⟨t, rfl⟩ := ry
  have hm2 := PySem.W.mapOf_K (prog := X.prog) (w := X.w) I2.kIn KD0.at_ KD0.lit
  refine wpAny_in_of (PySem.strKind_is X.prog X.w (S z) t) KD0.low hm2 ?_
  have hf := find_kd h2 z
  cases el : lookS d z with
  | none => rw [el] at hf q; simp only at hf; rw [hf]; exact wpAny_truthy_bool ⟨H2, I2.tok _, q⟩
  | some w => rw [el] at hf q; obtain ⟨u, hu, _⟩ := hf; rw [hu]; exact wpAny_truthy_bool ⟨H2, I2.tok _, q⟩
theorem pt3_kin (D : Kdt X.K X.w X.mg x d) (he : PE3 X e ty) (hg : Gl X x) (hm : behindInMarks .In (.Name x p) = false := by rfl) (hd : (x == ("__debug__" : Str)) = false := by decide) : PT3 X (.Compare e [.In] [.Name x p] cpos) (tV (eKin d ty)) := fun E tk => by
  obtain ⟨u, p2, q2⟩ := he E tk
  refine ⟨_, pt_kin D hg p2 hd hm, fun σ H γ G Q3 Q hs hr h3 k => ?_⟩
  refine q2 σ H γ G _ _ hs hr h3 fun v2 H2 w2 G2 x2 r2 rv2 h3 => ?_
  cases w2 with
  | str z => exact ⟨z, rep_str1 rv2, k _ H2 G2 x2 r2 h3⟩
  | _ => exact h3.elim
theorem pt_knin {tu : L2.TE} (D : Kdt X.K X.w X.mg x d) (hg : Gl X x) (he : PE X e tu) (hd : (x == ("__debug__" : Str)) = false) (hm : behindInMarks .NotIn (.Name x p) = false) : PT X (.Compare e [.NotIn] [.Name x p] cpos) (fun σ H Q => tu σ H fun y H1 => ∃ z : List Nat, y = .str (S z) ∧ Q (!(lookS d z).isSome) H1) := by
  obtain ⟨a, es, n, h1, KD0, h2⟩ := D.ex
  refine ⟨fun pins s σ H Q I h => ?_⟩
  refine wpAny_isTrue_Compare1 (thn (he.run pins s σ H _ I h) fun u s2 ⟨y, H2, I2, ry, z, ey, q⟩ => ld_glob I2 hg h1 ?_ hd) hm
  subst ey
  obtain ⟨t, rfl⟩ := ry
  have hm2 := PySem.W.mapOf_K (prog := X.prog) (w := X.w) I2.kIn KD0.at_ KD0.lit
  refine wpAny_notIn_of (PySem.strKind_is X.prog X.w (S z) t) KD0.low hm2 ?_
  have hf := find_kd h2 z
  cases el : lookS d z with
  | none => rw [el] at hf q; simp only at hf; rw [hf]; exact wpAny_truthy_bool ⟨H2, I2.tok _, q⟩
  | some w => rw [el] at hf q; obtain ⟨u, hu, _⟩ := hf; rw [hu]; exact wpAny_truthy_bool ⟨H2, I2.tok _, q⟩
theorem pt3_knin (D : Kdt X.K X.w X.mg x d) (he : PE3 X e ty) (hg : Gl X x) (hm : behindInMarks .NotIn (.Name x p) = false := by rfl) (hd : (x == ("__debug__" : Str)) = false := by decide) : PT3 X (.Compare e [.NotIn] [.Name x p] cpos) (tV (eKnin d ty)) := fun E tk => by
  obtain ⟨u, p2, q2⟩ := he E tk
  refine ⟨_, pt_knin D hg p2 hd hm, fun σ H γ G Q3 Q hs hr h3 k => ?_⟩
  refine q2 σ H γ G _ _ hs hr h3 fun v2 H2 w2 G2 x2 r2 rv2 h3 => ?_
  cases w2 with
  | str z => exact ⟨z, rep_str1 rv2, k _ H2 G2 x2 r2 h3⟩
  | _ => exact h3.elim
end
/-- the fact of the top -/
theorem kdt_of {K : Frag} {w : World} {h : Heap} {mg : Str → Option Value} {x : Str} {d : KD} {a : Addr} {es : Array DictEntry} {n : Nat} (hK : K.In h) (hN : h.Ns mainGlobals mg) (e : PySem.W.nsIn K mainGlobals x = some (some (.ref a)))
    (l : K.lookup a = some ⟨.type "dict", none, .dict es n, #[]⟩) (q : PySem.W.KeysLit w.params es.toList) (s : (a == sysModules) = false) (b : kdB K d es.toList = true) : Kdt K w mg x d :=
  ⟨a, es, n, PySem.W.mg_of hK hN e, ⟨l, q, s⟩, b⟩
/-! ### zip of lists and tuples -/
inductive Src where | L (a : Addr) | T (a : Addr)
def Src.ad : Src → Addr | .L a => a | .T a => a
def Src.at (K : Frag) (H : Hp) : Src → List V → Prop | .L a, xs => SqL K H a xs | .T a, xs => SqT K H a xs
def Src.it (h : Heap) : Src → Addr → Nat → Prop | .L a, it, i => h.IsListIter it a i | .T a, it, i => h.IsTupleIter it a i
def Src.is (h : Heap) : Src → Array Value → Prop | .L a, xs => h.IsList a xs | .T a, xs => h.IsTuple a xs
def Src.obj : Src → Obj | .L a => { cls := .type "list_iterator", data := .fields #[.ref a, .int 0 0] } | .T a => { cls := .type "tuple_iterator", data := .fields #[.ref a, .int 0 0] }
theorem Src.begins : ∀ (s : Src) (its : Array Value), Begins (.ref s.ad) s.obj fun h => s.is h its
  | .L a, its => begins_list a its
  | .T a, its => begins_tuple a its
theorem Src.draws {prog : Program} {w : World} {A : Around} (hh : A.handled = none) (it : Addr) (its : Array Value) : ∀ s : Src, s.ad ≠ it → Draws prog w A it [it, s.ad] its.size (fun i v => its[i]? = some v) (fun i h => s.it h it i ∧ s.is h its)
  | .L a, h => Draws.list hh it a h its
  | .T a, h => Draws.tuple hh it a h its
theorem Src.inv {X : Cx} {pins : List (Addr × Obj)} {σ : L2.St} {H : Hp} {s : Shared} {xs : List V} (I : Inv X pins σ H s) : ∀ {c : Src}, c.at X.K H xs → ∃ its : List Value, Vals xs its ∧ c.is s.heap its.toArray ∧ c.ad < s.heap.objs.size
  | .L a, h => by
    obtain ⟨its, r, p, _⟩ := I.list h
    exact ⟨its, r, p.isList, p.lt⟩
  | .T a, h => by
    obtain ⟨its, r, p, _⟩ := I.tuple h
    obtain ⟨o, ho, _⟩ := id p
    exact ⟨its, r, p, Heap.lt_size ho⟩
theorem Src.inj {X : Cx} {pins : List (Addr × Obj)} {σ : L2.St} {H : Hp} {s : Shared} {xs ys : List V} (I : Inv X pins σ H s) : ∀ {c : Src}, c.at X.K H xs → c.at X.K H ys → xs = ys
  | .L a, h, h' => I.list_inj h h'
  | .T a, h, h' => I.tuple_inj h h'
theorem Src.it_obj {h : Heap} {it : Addr} {i : Nat} : ∀ {c : Src}, c.it h it i → ∃ o, h.get? it = some o ∧ ∀ v, o.data ≠ .cell v
  | .L a, ⟨o, e, _, d⟩ => ⟨o, e, fun v q => by rw [d] at q; cases q⟩
  | .T a, ⟨o, e, _, d⟩ => ⟨o, e, fun v q => by rw [d] at q; cases q⟩
theorem Src.it_at {h h' : Heap} {it : Addr} {i : Nat} : ∀ {c : Src}, c.it h it i → (∀ o, h.get? it = some o → h'.get? it = some o) → c.it h' it i
  | .L a, x, k => x.at k
  | .T a, x, k => x.at k
def ItzG (K : Frag) (c d : Src) (n m : Nat) : L2.It :=
  ⟨fun i H => ∃ (xs ys : List V) (x y : V), c.at K H xs ∧ d.at K H ys ∧ xs.length = n ∧ ys.length = m ∧ xs[i]? = some x ∧ ys[i]? = some y,
    fun i H v H' => ∃ T x y, v = .ref T ∧ H T = none ∧ H' = upd H T (.tup [x, y]) ∧ (∀ xs, c.at K H xs → xs[i]? = some x) ∧ ∀ ys, d.at K H ys → ys[i]? = some y,
    fun i H => ∃ xs ys : List V, c.at K H xs ∧ d.at K H ys ∧ xs.length = n ∧ ys.length = m ∧ (n ≤ i ∨ m ≤ i)⟩
theorem turn_zipG {P : Program} {w : World} {K : Frag} {elts : List Expr} {kk : Nat} {tpos : Pos} {c d : Src} {n m : Nat} {z TI TO i1 i2 : Addr} (D : ZipSep2 z TI TO i1 i2 [i1, c.ad] [i2, d.ad]) (n1 : c.ad ≠ i1) (n2 : d.ad ≠ i2) :
    Turn P w K (.Tuple elts kk tpos) (ItzG K c d n m) [z, TI, TO, i1, i2] z (fun i h => i ≤ n ∧ i ≤ m ∧ IsZip h z TI TO .none ∧ IsTupOf2 h TI (.ref i1) (.ref i2) ∧ (∃ a b, IsTupOf2 h TO a b) ∧ c.it h i1 i ∧ d.it h i2 i) where
  mem := by simp
  obj := fun i h st b hb => by
    obtain ⟨_, _, hz, hTI, ⟨x, y, hTO⟩, h1, h2⟩ := st
    have e' : b = z ∨ b = TI ∨ b = TO ∨ b = i1 ∨ b = i2 := by simpa using hb
    rcases e' with q | q | q | q | q
    · rw [q]; exact ⟨_, hz, fun v q => nomatch q⟩
    · rw [q]; exact ⟨_, hTI, fun v q => nomatch q⟩
    · rw [q]; exact ⟨_, hTO, fun v q => nomatch q⟩
    · rw [q]; exact Src.it_obj h1
    · rw [q]; exact Src.it_obj h2
  keep := fun i h h' st k => by
    obtain ⟨l1, l2, hz, hTI, ⟨x, y, hTO⟩, h1, h2⟩ := st
    exact ⟨l1, l2, k z (by simp) _ hz, k TI (by simp) _ hTI, ⟨x, y, k TO (by simp) _ hTO⟩, Src.it_at h1 fun o q => k i1 (by simp) o q, Src.it_at h2 fun o q => k i2 (by simp) o q⟩
  item := by
    intro X hP hw hK hc i pins s σ H E I hf st hg
    subst hP hw hK
    obtain ⟨l1, l2, hz, hTI, ⟨x0, y0, hTO⟩, h1, h2⟩ := st
    obtain ⟨xs, ys, x, y, hqx, hqy, en, em, hx, hy⟩ := hg
    obtain ⟨its, rv, p, _⟩ := Src.inv I hqx
    obtain ⟨its2, rv2, p2, _⟩ := Src.inv I hqy
    obtain ⟨u, hu, ru⟩ := rv.get hx
    obtain ⟨u2, hu2, ru2⟩ := rv2.get hy
    have hzl : z < s.heap.objs.size := Heap.lt_size hz
    have hh : X.A.handled = none := I.ok.hd hc
    have D1 := Src.draws (prog := X.prog) (w := X.w) (A := X.A.in1) hh i1 its.toArray c n1
    have D2 := Src.draws (prog := X.prog) (w := X.w) (A := X.A.in1) hh i2 its2.toArray d n2
    have f1 := rv.length
    have f2 := rv2.length
    have g1 : i < xs.length := (List.getElem?_eq_some_iff.mp hx).1
    have g2 : i < ys.length := (List.getElem?_eq_some_iff.mp hy).1
    refine wpAny_pyNext_zipD2_item D D1 D2 hz hTI hTO ⟨h1, p⟩ ⟨h2, p2⟩ (by simp; omega) (by simp; omega) fun x1 x2 h' tk e1 e2 z' TO' h1' h2' hT hsz hk => ?_
    have e1' : x1 = u := Option.some.inj (e1.symm.trans (by simpa using hu))
    have e2' : x2 = u2 := Option.some.inj (e2.symm.trans (by simpa using hu2))
    subst e1' e2'
    refine ⟨_, rfl, wpAny_letOwnedTupleGo_zip (s := { s with heap := h', toks := tk }) z' fun h'' z'' sb => ?_⟩
    have hT2 : h''.get? s.heap.objs.size = some { cls := .type "tuple", data := .seq #[x1, x2] } := (sb.2 _ (Nat.ne_of_gt hzl)).trans hT
    have new : ObjOk X.prog X.w (upd H s.heap.objs.size (.tup [x, y])) h'' s.heap.objs.size (.tup [x, y]) :=
      ⟨by show 2 ≤ sizeLine; decide, [x1, x2], .cons ru (.cons ru2 .nil), ⟨_, hT2, rfl, _, rfl⟩⟩
    have I1 : Inv X pins σ (upd H s.heap.objs.size (.tup [x, y])) { s with heap := h'', toks := tk } :=
      I.turnedNew (t' := tk) (ch := [z, TI, TO, i1, i2]) (fun c o hb q => (sb.2 c (fun q' => hb (by simp [q']))).trans (hk c o (fun q' => hb (by simp [q'])) (fun q' => hb (by simp [q'])) (fun q' => hb (by simp [q'])) (fun q' => hb (by simp [q'])) q)) hf (Nat.le_refl _) new
    refine ⟨.ref s.heap.objs.size, _, I1, rfl, ⟨_, x, y, rfl, I.hok.fresh (Nat.le_refl _), rfl, fun l hl => by rw [Src.inj I hl hqx]; exact hx, fun l hl => by rw [Src.inj I hl hqy]; exact hy⟩, ⟨by omega, by omega, z'', ?_, ⟨x1, x2, ?_⟩, ?_, ?_⟩, fun c hcm => ?_⟩
    · exact (sb.2 _ D.TIz).trans (hk _ _ D.TIz D.TITO D.TIi1 D.TIi2 hTI)
    · exact (sb.2 _ D.TOz).trans TO'
    · exact Src.it_at h1'.1 fun o q => (sb.2 _ D.zi1.symm).trans q
    · exact Src.it_at h2'.1 fun o q => (sb.2 _ D.zi2.symm).trans q
    · have hlt : c < s.heap.objs.size := by
        have e' : c = z ∨ c = TI ∨ c = TO ∨ c = i1 ∨ c = i2 := by simpa using hcm
        rcases e' with q | q | q | q | q
        · rw [q]; exact hzl
        · rw [q]; exact Heap.lt_size hTI
        · rw [q]; exact Heap.lt_size hTO
        · rw [q]; obtain ⟨_, e1, _⟩ := Src.it_obj h1; exact Heap.lt_size e1
        · rw [q]; obtain ⟨_, e2, _⟩ := Src.it_obj h2; exact Heap.lt_size e2
      rw [upd_ne (Nat.ne_of_lt hlt)]
      exact (hf c hcm).1
  done := by
    intro X hP hw hK hc i pins s σ H E I hf st hg
    subst hP hw hK
    obtain ⟨l1, l2, hz, hTI, ⟨x0, y0, hTO⟩, h1, h2⟩ := st
    obtain ⟨xs, ys, hqx, hqy, en, em, hend⟩ := hg
    obtain ⟨its, rv, p, _⟩ := Src.inv I hqx
    obtain ⟨its2, rv2, p2, _⟩ := Src.inv I hqy
    have hh : X.A.handled = none := I.ok.hd hc
    have D1 := Src.draws (prog := X.prog) (w := X.w) (A := X.A.in1) hh i1 its.toArray c n1
    have D2 := Src.draws (prog := X.prog) (w := X.w) (A := X.A.in1) hh i2 its2.toArray d n2
    have f1 := rv.length
    have f2 := rv2.length
    exact wpAny_pyNext_zipD2_end D D1 D2 hz hTI hTO ⟨h1, p⟩ ⟨h2, p2⟩ (by simp; omega) (by simp; omega) (by simp; omega) fun h' tk hk => ⟨rfl, I.turnedL (t' := tk) (ch := [z, TI, TO, i1, i2]) (fun c o hb q =>
      hk c o (fun q' => hb (by simp [q'])) (fun q' => hb (by simp [q'])) (fun q' => hb (by simp [q'])) (fun q' => hb (by simp [q'])) q) hf⟩
  self := fun A i s Q E st h => wpAny_pyIter_zip st.2.2.1 h
def tZipG (K : Frag) (ta : L2.TA) : L2.TI := fun σ H R => ta σ H fun vs H1 => ∃ (c d : Src) (xs ys : List V), vs = [.ref c.ad, .ref d.ad] ∧ c.at K H1 xs ∧ d.at K H1 ys ∧ R (ItzG K c d xs.length ys.length) H1
theorem pi_zipG {X : Cx} {pos : Pos} {e e2 : Expr} {ta : L2.TA} {p tpos : Pos} {elts : List Expr} {kk : Nat} (hg : Gl X "zip") (hm : X.mg "zip" = none) (ha : PA X [e, e2] ta)
    (hs : starEach [e, e2] X.env = (false, eval e X.env) :: starEach [e2] X.env := by rfl) (hpl : (backTo pos (starEach [e2] X.env)).any (·.1) = false := by rfl) :
    PI X (.Tuple elts kk tpos) (.Call (.Name "zip" p) [e, e2] [] pos) (tZipG X.K ta) := by
  refine ⟨fun pins s σ H R I h => ?_⟩
  refine Call_ (ld_blt I hg hm PyProof.Rows.boot_zip (PyProof.Rows.callWith_type1 (thn (ha.run pos pins s σ H _ I h) fun us s1 ⟨vs, H1, I1, r1, q1⟩ => ?_) hs hpl))
  obtain ⟨c, d, xs, ys, ex, hx, hy, q⟩ := q1
  subst ex
  cases r1 with
  | cons r rr =>
    cases rr with
    | cons r' rr =>
      cases rr
      cases r
      cases r'
      have fresh5 : ∀ c, c ∈ [s1.heap.objs.size + 4, s1.heap.objs.size + 2, s1.heap.objs.size + 3, s1.heap.objs.size, s1.heap.objs.size + 1] → FpOk X pins H1 c := fun c hcm => by
        have e' : c = s1.heap.objs.size + 4 ∨ c = s1.heap.objs.size + 2 ∨ c = s1.heap.objs.size + 3 ∨ c = s1.heap.objs.size ∨ c = s1.heap.objs.size + 1 := by simpa using hcm
        have hle : s1.heap.objs.size ≤ c := by
          rcases e' with z | z | z | z | z
          · rw [z]; exact Nat.le_add_right _ _
          · rw [z]; exact Nat.le_add_right _ _
          · rw [z]; exact Nat.le_add_right _ _
          · rw [z]; exact Nat.le_refl _
          · rw [z]; exact Nat.le_add_right _ _
        exact I1.fpOk hle (I1.hok.fresh hle)
      obtain ⟨its, rv, p1, lt1⟩ := Src.inv I1 hx
      obtain ⟨its2, rv2, p2, lt2⟩ := Src.inv I1 hy
      refine zip_begins2 (c.begins its.toArray) (d.begins its2.toArray) p1 p2 fun h' hz hTI hTO h1 h2 hsz hk => wpAny_pyIter_zip hz ?_
      have I2 : Inv X pins σ H1 { s1 with heap := h' } := I1.kept (t' := s1.toks) hk
      have q1 : ∀ k, s1.heap.objs.size + k ≠ c.ad := fun k e => Nat.lt_irrefl _ (Nat.lt_of_le_of_lt (Nat.le_add_right _ k) (e ▸ lt1))
      have q2 : ∀ k, s1.heap.objs.size + k ≠ d.ad := fun k e => Nat.lt_irrefl _ (Nat.lt_of_le_of_lt (Nat.le_add_right _ k) (e ▸ lt2))
      have q1' : s1.heap.objs.size ≠ c.ad := q1 0
      have q2' : s1.heap.objs.size ≠ d.ad := q2 0
      have D : ZipSep2 (s1.heap.objs.size + 4) (s1.heap.objs.size + 2) (s1.heap.objs.size + 3) s1.heap.objs.size (s1.heap.objs.size + 1) [s1.heap.objs.size, c.ad] [s1.heap.objs.size + 1, d.ad] := by
        constructor <;> simp [q1 4, q1 3, q1' , q2 4, q2 3, q1 1, q2 0, q2' ] <;> first | omega | exact q1 1 | exact q2'
      have b1 : c.it h' s1.heap.objs.size 0 := by cases c <;> exact ⟨_, h1, rfl, rfl⟩
      have b2 : d.it h' (s1.heap.objs.size + 1) 0 := by cases d <;> exact ⟨_, h2, rfl, rfl⟩
      exact ⟨s1.heap.objs.size + 4, [s1.heap.objs.size + 4, s1.heap.objs.size + 2, s1.heap.objs.size + 3, s1.heap.objs.size, s1.heap.objs.size + 1], _, _, H1, rfl, I2, turn_zipG D q1'.symm (q2 1).symm, ⟨Nat.zero_le _, Nat.zero_le _, hz, hTI, ⟨_, _, hTO⟩, b1, b2⟩, fresh5, q⟩
theorem src_of {K : Frag} {H : Hp} {G : Gh} {x : W} {v : V} {ws : List W} (r : Rel K H G) (rv : Rep K H x v) (hs : isSeqW x = true) (e : items x G = some ws) : ∃ (c : Src) (xs : List V), v = .ref c.ad ∧ c.at K H xs ∧ RepL K H ws xs ∧
    ∀ (H' : Hp) (G' : Gh) (ws' : List W), KpT H H' → Rel K H' G' → items x G' = some ws' → ∃ xs', c.at K H' xs' ∧ RepL K H' ws' xs' := by
  cases x with
  | ref a =>
    simp only [Rep] at rv
    subst rv
    obtain ⟨xs, s1, s2⟩ := seq_items r e
    exact ⟨.L a, xs, rfl, s1, s2, fun H' G' ws' _ r' e' => seq_items r' e'⟩
  | tup us =>
    simp only [Rep] at rv
    obtain ⟨a, xs, rfl, h1, h2⟩ := rv
    cases e
    refine ⟨.T a, xs, rfl, .inl (.inl h1), h2, fun H' G' ws' k r' e' => ?_⟩
    cases e'
    exact ⟨xs, .inl (.inl (k a xs h1)), h2.extT k⟩
  | ktp us =>
    simp only [Rep] at rv
    obtain ⟨a, xs, rfl, h1, h2⟩ := rv
    cases e
    have up : ∀ H, SqT K H a xs := fun H => by
      rcases h1 with (h1 | ⟨o, h1⟩) | h1
      · cases h1
      · cases h1
      · exact .inr h1
    refine ⟨.T a, xs, rfl, up H, h2, fun H' G' ws' k r' e' => ?_⟩
    cases e'
    exact ⟨xs, up H', h2.extT k⟩
  | kl us =>
    simp only [Rep] at rv
    obtain ⟨a, xs, rfl, h1, h2⟩ := rv
    cases e
    have up : ∀ H, SqL K H a xs := fun H => by
      rcases h1 with (h1 | ⟨o, h1⟩) | h1
      · cases h1
      · cases h1
      · exact .inr h1
    refine ⟨.L a, xs, rfl, up H, h2, fun H' G' ws' k r' e' => ?_⟩
    cases e'
    exact ⟨xs, up H', h2.extT k⟩
  | _ => cases hs
theorem simIt_zipG {K : Frag} {H0 : Hp} {x y : W} {c d : Src} {n m : Nat} (hx : ∀ (H' : Hp) (G' : Gh) (ws' : List W), KpT H0 H' → Rel K H' G' → items x G' = some ws' → ∃ xs', c.at K H' xs' ∧ RepL K H' ws' xs')
    (hy : ∀ (H' : Hp) (G' : Gh) (ws' : List W), KpT H0 H' → Rel K H' G' → items y G' = some ws' → ∃ xs', d.at K H' xs' ∧ RepL K H' ws' xs') : SimIt K H0 (ItzG K c d n m) (gitems x y n m) := by
  intro i H G all xx r e
  unfold gitems at e
  split at e
  · rename_i xs e1
    split at e
    · rename_i ys e2
      split at e
      · rename_i hl0
        obtain ⟨hl1, hl2⟩ := hl0
        cases e
        obtain ⟨vs, s1, s2⟩ := hx H G _ xx.t r e1
        obtain ⟨us, t1, t2⟩ := hy H G _ xx.t r e2
        have l1 := s2.length
        have l2 := t2.length
        refine ⟨fun w ew => ?_, fun hl => ⟨vs, us, s1, t1, by omega, by omega, ?_⟩⟩
        · rw [List.getElem?_zipWith] at ew
          cases q1 : xs[i]? with
          | none => rw [q1] at ew; cases ew
          | some wx =>
            cases q2 : ys[i]? with
            | none => rw [q1, q2] at ew; cases ew
            | some wy =>
              rw [q1, q2] at ew
              cases ew
              obtain ⟨vx, g1, g2⟩ := s2.get q1
              obtain ⟨vy, g3, g4⟩ := t2.get q2
              refine ⟨⟨vs, us, vx, vy, s1, t1, by omega, by omega, g1, g3⟩, fun z H' hy => ?_⟩
              obtain ⟨T, x', y', rfl, hT, rfl, f1, f2⟩ := hy
              have ex : x' = vx := Option.some.inj ((f1 vs s1).symm.trans g1)
              have ey : y' = vy := Option.some.inj ((f2 us t1).symm.trans g3)
              subst ex ey
              refine ⟨.new hT, r.hid hT, ?_⟩
              simp only [Rep]
              exact ⟨T, _, rfl, upd_same, .cons (g2.ext (.new hT)) (.one (g4.ext (.new hT)))⟩
        · rw [List.length_zipWith] at hl
          omega
      · cases e
    · cases e
  · cases e
theorem pi3_zipG {X : Cx} {pos : Pos} {a b : Expr} {ta : TA} {p tpos : Pos} {elts : List Expr} {kk : Nat} (hg : Gl X "zip") (hm : X.mg "zip" = none) (ha : PA3 X [a, b] ta) (hs : starEach [a, b] X.env = (false, eval a X.env) :: starEach [b] X.env := by rfl)
    (hpl : (backTo pos (starEach [b] X.env)).any (·.1) = false := by rfl) : PI3 X (.Tuple elts kk tpos) (.Call (.Name "zip" p) [a, b] [] pos) (iZipG ta) := fun E tk => by
  obtain ⟨t, p1, q⟩ := ha E tk
  refine ⟨_, pi_zipG hg hm p1 hs hpl, fun σ H γ G R3 R hs hr h3 k => ?_⟩
  refine q σ H γ G _ _ hs hr h3 fun vs H1 ws G1 x1 r1 rv h3 => ?_
  split at h3
  · obtain ⟨v, u, rfl, r1v, ru⟩ := repl2 rv
    obtain ⟨i1, i2, xs, ys, e1, e2, h3⟩ := h3
    obtain ⟨c, vs, rfl, s1, s2, sk⟩ := src_of r1 r1v i1 e1
    obtain ⟨d, us, rfl, t1, t2, tk'⟩ := src_of r1 ru i2 e2
    refine ⟨c, d, vs, us, rfl, s1, t1, ?_⟩
    rw [← s2.length, ← t2.length]
    exact k _ _ H1 G1 x1 r1 (simIt_zipG sk tk') h3
  · exact h3.elim
end L3

end
section
set_option maxHeartbeats 2000000
/-! L3SndQ: comprehensions whose step may raise. -/
namespace L3
open PySem PySem.Spec PyProof.Rows L2
/-! ### what stands behind a comprehension's block -/
def compPostX (M : Model) (A : Around) (E : Value → Shared → Prop) (use : Option (Value → Sem Unit)) (Q : Value → Shared → Prop) (acc : Value) (ce : Env) (r : Result) (s' : Shared) : Prop :=
  match r, use with
  | .ok _, none => ∃ m, s'.heap.Ns ce.locals m ∧ ∀ h', Heap.SameBut ce.locals s'.heap h' → Q acc { s' with heap := h' }
  | .ok _, some u => wpAny M A (u acc) (fun _ s'' => ∃ m, s''.heap.Ns ce.locals m ∧ ∀ h', Heap.SameBut ce.locals s''.heap h' → Q .none { s'' with heap := h' }) E s'
  | .error x, _ => ∃ m, s'.heap.Ns ce.locals m ∧ ∀ h', Heap.SameBut ce.locals s'.heap h' → ∀ c2 : Env, c2.frame = ce.frame → wpAny M A (PySem.passOn "comprehension.variables-let-go" x c2 : Sem Value) (fun _ _ => False) E { s' with heap := h' }
theorem comprehension_freeX {M : Model} {A : Around} {E : Value → Shared → Prop} {s : Shared} {env : Env} {e : Expr} {scope : Scope} {pos : Pos} {newAcc first : Sem Value} {g : Comprehension} {gs : List Comprehension} {cl : List (Str × Addr)} {use : Option (Value → Sem Unit)}
    {Q : Value → Shared → Prop}
    (hcl : clausesOf e = g :: gs) (hs : ∀ x, foldedSetIterable g.iter env x = pure x) (hclos : closureFor scope env = pure cl)
    (hkind : scope.kind = .function) (hnames : ∀ x ∈ scope.names, x.2 = .local → scope.names.lookup x.1 = some .local)
    (h : wpAny M A first (fun x s₁ => wpAny M A (pyIter x) (fun it s₂ => wpAny M A newAcc (fun acc s₃ =>
      wpAny M A (newFunctionEnv scope env.globals cl [] env.qual none .none (some env)) (fun cenv s₄ =>
        codeAny M A (.compStart e 0 it acc { cenv with scope := relabel scope env }) (compPostX M A E use Q acc { cenv with scope := relabel scope env }) s₄) E s₃) E s₂) E s₁) E s) :
    wpAny M A (comprehension e scope env pos newAcc false first use) Q E s := by
  unfold comprehension
  rw [hclos, hcl]
  refine wpAny_bind (wpAny_mono h (fun x s₁ h₁ => wpAny_bind (wpAny_standAt (wpAny_bind (wpAny_of_eq (hs x) (wpAny_bind (wpAny_holding (wpAny_mono h₁ (fun it s₂ h₂ =>
    wpAny_standIf (wpAny_bind (wpAny_mono h₂ (fun acc s₃ h₃ => wpAny_bind (wpAny_pure (wpAny_bind (wpAny_mono h₃ (fun cenv s₄ h₄ => ?_) fun _ _ h' => h')))) fun _ _ h' => h')))
      fun _ _ h' => h'))))))) fun _ _ h' => h')
  dsimp only
  have hv : ∀ x ∈ (scope.names.filter fun x => (x.2 == .local || x.2 == .cell) && x.1 != (".0" : Str)).reverse, x.2 = .local →
      Env.kindOf { cenv with scope := relabel scope env } x.1 = some .local := fun x hx hl => lookup_relabel_local (hnames x (List.mem_filter.mp (List.mem_reverse.mp hx)).1 hl)
  have hv' : ∀ x ∈ (scope.names.filter fun x => (x.2 == .local || x.2 == .cell) && x.1 != (".0" : Str)).reverse.drop 1 ++ (scope.names.filter fun x => (x.2 == .local || x.2 == .cell) && x.1 != (".0" : Str)).reverse.take 1,
      x.2 = .local → Env.kindOf { cenv with scope := relabel scope env } x.1 = some .local := fun x hx hl => by
    rcases List.mem_append.mp hx with h1 | h1
    · exact hv x (List.mem_of_mem_drop h1) hl
    · exact hv x (List.mem_of_mem_take h1) hl
  refine wpAny_holding (wpAny_bind (wpAny_attempt (wpAny_holding (wpAny_run (codeAny_mono h₄ fun r s' hr => ?_)))))
  cases r with
  | ok f =>
    cases use with
    | none =>
      obtain ⟨m, hn, hr⟩ := hr
      exact wpAny_bind (wpAny_holding (wpAny_comp_letGo (cenv := { cenv with scope := relabel scope env }) hkind _ s' m hv hn fun h' m' _ hs' => wpAny_pure (hr h' hs')))
    | some u =>
      refine wpAny_bind (wpAny_rule (wpAny_bind (wpAny_holding (wpAny_mono hr (fun _ s'' hr' => ?_) fun _ _ h' => h'))))
      obtain ⟨m, hn, hr'⟩ := hr'
      exact wpAny_bind (wpAny_comp_letGo (cenv := { cenv with scope := relabel scope env }) hkind _ s'' m hv' hn fun h' m' _ hs' => wpAny_pure (hr' h' hs'))
  | error x =>
    have hr' : ∃ m, s'.heap.Ns cenv.locals m ∧ ∀ h', Heap.SameBut cenv.locals s'.heap h' → ∀ c2 : Env, c2.frame = cenv.frame → wpAny M A (PySem.passOn "comprehension.variables-let-go" x c2 : Sem Value) (fun _ _ => False) E { s' with heap := h' } := by cases use <;> exact hr
    obtain ⟨m, hn, hr⟩ := hr'
    exact wpAny_bind (wpAny_holding (wpAny_comp_letGo (cenv := { cenv with scope := relabel scope env }) hkind _ s' m hv hn fun h' m' _ hs' => wpAny_mono (hr h' hs' { cenv with scope := relabel scope env } rfl) (fun _ _ f => f.elim) fun _ _ y => y))
/-! ### an exception that leaves a block -/
section
open HandSPX
variable {M : Model} {A : Around} {E : Value → Shared → Prop} {s : Shared} {Z : Obj → Prop} {base : Heap} {env : Env} {outer l : List Env} {L C e : Addr}
/-- noted by another place already -/
theorem looks_otherZ {Q : Unit → Shared → Prop} (hZ : Steady Z) (hfr : A.frames = some (env :: outer)) (hf : env.frame = some L) (hCL : C ≠ L) (hfl : HeldZ base (env :: outer) e Z C s.heap)
    (hQ : ∀ h', HeldZ base (env :: outer) e Z L h' → s.heap.UpToSlots h' → Q () { s with heap := h' }) : wpAny M A (noteFrame (.ref e) env) Q E s := by
  obtain ⟨hkb, hen, hl, oe, vs, T, oT, ts, he, hz, hd, h1, hnT, hTe, hT, hdT, h3⟩ := hfl
  unfold noteFrame
  simp only [hf]
  refine wpAny_bind (wpAny_field he hd h1 ?_)
  rw [if_pos (show (Value.ref T != Value.none) = true from by simp)]
  refine wpAny_bind (wpAny_field hT hdT h3 ?_)
  rw [if_neg (show ¬ ((rawInt C == rawInt L) = true) from fun q => hCL (Int.ofNat.inj (by simpa [rawInt] using q)))]
  refine wpAny_bind (wpAny_setField hT hdT (Array.getElem?_eq_some_iff.mp h3).1 ?_)
  have other : ∀ b, b ≠ T → (s.heap.update T (Obj.mapFields (·.setIfInBounds 3 Value.none))).get? b = s.heap.get? b := fun b hb => Heap.get?_update_other _ _ (Ne.symm hb)
  have noRecord : ∀ b o, s.heap.get? b = some o → (∀ vs, o.data ≠ .fields vs) → b ≠ T := fun b o hb hnf q => by
    rw [q, hT] at hb; injection hb with hb; subst hb; exact hnf ts hdT
  refine wpAny_entryZ hZ hfr (hl.of_keeps fun b o hb hnf => ⟨o, (other b (noRecord b o hb hnf)).trans hb, rfl⟩) hf ((other e (Ne.symm hTe)).trans he)
    (fun b o hbo => (other b fun q => by rw [q, hnT] at hbo; cases hbo).trans (hkb b o hbo)) hen hd (Array.getElem?_eq_some_iff.mp h1).1 hz fun h' hN => ?_
  obtain ⟨x1, x2, x3, x4⟩ := hN
  exact hQ h' ⟨x1, hen, x2, x3⟩ fun b o hb hnf => x4 b o ((other b (noRecord b o hb hnf)).trans hb) hnf
theorem look_sky {Q : Unit → Shared → Prop} (hZ : Steady Z) (hfr : A.frames = some (env :: outer)) (hf : env.frame = some L) (hCL : C ≠ L) (x : Sky base (env :: outer) e Z C s.heap)
    (hQ : ∀ h', HeldZ base (env :: outer) e Z L h' → s.heap.UpToSlots h' → Q () { s with heap := h' }) : wpAny M A (noteFrame (.ref e) env) Q E s := by
  rcases x with ⟨hB, hn, hl, oe, vs, he, hz, hd, h1⟩ | fl | hh
  · exact look_newZ hZ hfr hl hf he hB hn hd h1 hz hQ
  · exact looks_onZ hZ hfr hf fl hQ
  · exact looks_otherZ hZ hfr hf hCL hh hQ
/-- the block's names are let go -/
theorem held_let {h h' : Heap} {oC : Obj} (hh : HeldZ base l e Z L h) (hC : base.get? C = some oC) (sb : Heap.SameBut C h h') (nl : ∀ b ∈ frs l, b ≠ C) : HeldZ (PySem.W.hideAll base [C]) l e Z L h' := by
  obtain ⟨hkb, hen, hl, oe, vs, T, oT, ts, he, hz, hd, h1, hnT, hTe, hT, hdT, h3⟩ := hh
  have hCh := hkb C oC hC
  have eC : e ≠ C := by rintro rfl; rw [hC] at hen; cases hen
  have TC : T ≠ C := by rintro rfl; rw [hC] at hnT; cases hnT
  have of : ∀ {b : Addr} {o : Obj}, (PySem.W.hideAll base [C]).get? b = some o → base.get? b = some o ∧ b ≠ C := fun {b o} q => by
    refine ⟨PySem.W.of_hideAll _ q, fun z => ?_⟩
    rw [PySem.W.hideAll_none [C] (by rw [z]; simp)] at q
    cases q
  have no : ∀ {b : Addr}, base.get? b = none → (PySem.W.hideAll base [C]).get? b = none := fun {b} q => by
    cases w : (PySem.W.hideAll base [C]).get? b with
    | none => rfl
    | some o => rw [(of w).1] at q; cases q
  refine ⟨fun b o q => ?_, no hen, ?_, oe, vs, T, oT, ts, (sb.2 e eC).trans he, hz, hd, h1, no hnT, hTe, (sb.2 T TC).trans hT, hdT, h3⟩
  · obtain ⟨q1, q2⟩ := of q
    exact (sb.2 b q2).trans (hkb b o q1)
  · induction l with
    | nil => trivial
    | cons en r ih =>
      obtain ⟨hk, ⟨L0, o, hf, hn, ho, hdd⟩, hr⟩ := hl
      refine ⟨hk, ⟨L0, o, hf, no hn, (sb.2 L0 ?_).trans ho, hdd⟩, ih ?_ hr⟩
      · exact nl L0 (List.mem_filterMap.mpr ⟨en, List.mem_cons_self, hf⟩)
      · intro b hb
        obtain ⟨e', he', q⟩ := List.mem_filterMap.mp hb
        exact nl b (List.mem_filterMap.mpr ⟨e', List.mem_cons_of_mem _ he', q⟩)
end
section
variable {X : Cx} {pins : List (Addr × Obj)} {σ : L2.St}
abbrev blkX (X : Cx) (s : Shared) (H : Hp) (scope : Scope) (cenv : Env) (fp : List Addr) (xe : Value → Shared → Prop) : Cx := { X with s_0 := s, H_0 := H, env := cenv, outer := X.stack, ex := fp, fn := fun x => scope.names.lookup x == some .cell, pn := [], xe := xe }
theorem inv_blkX {s s' : Shared} {H H' : Hp} {scope : Scope} {cenv : Env} {fp : List Addr} {p : List (Addr × Obj)} (I : Inv (X.blk s H scope cenv fp) p σ H' s') (xe : Value → Shared → Prop) : Inv (blkX X s H scope cenv fp xe) p σ H' s' :=
  ⟨⟨I.ok.mod, I.ok.kind, I.ok.glob, I.ok.blt, I.ok.above, I.ok.inj, I.ok.has, I.ok.cab, I.ok.hd, I.ok.frames, I.ok.stk, I.ok.exf, I.ok.bs, I.ok.bsz, I.ok.noex, I.ok.exfs, I.ok.funs, I.ok.frf⟩, I.os, I.bare, I.base, I.loc, I.cell, I.free, I.freeC, I.pin, I.hok, I.len⟩
theorem blk_takes {W WB : WX} {s3 : Shared} {H3 : Hp} {scope : Scope} {ce : Env} {fp : List Addr} {use : Option (Value → Sem Unit)} {Qf : Value → Shared → Prop} {acc : Value}
    (I3 : Inv X pins σ H3 s3) (hs : X.stack = X.env :: X.outer) (hf : X.env.frame = some X.env.locals) (tk : Takes X W) (hW : ∀ cls d σ' H', WB cls d σ' H' → W cls d σ H') (cL : ce.locals = s3.heap.objs.size) (cF : ce.frame = X.env.frame)
    (f3 : ∀ b ∈ fp, FpOk X pins H3 b ∧ b < s3.heap.objs.size) :
    Takes (blkX X s3 H3 scope ce fp (notedBy (model X.prog X.w) X.A ce (fun e s' => compPostX (model X.prog X.w) X.A X.xe use Qf acc ce (.error e) s'))) WB := by
  rintro u s' ⟨a, B, sI, pB, σB, H, cls, d, rfl, I, nb, up, sky, na, os, ag, w⟩
  have hfr : X.A.frames = some (X.env :: X.outer) := by rw [I3.ok.frames, hs]
  have hCL : ce.locals ≠ X.env.locals := by
    obtain ⟨m, hm, _⟩ := I3.loc
    rw [cL]
    exact Nat.ne_of_gt hm.lt
  have nfs : ∀ b ∈ frs X.stack, b < s3.heap.objs.size := fun b hb => by
    obtain ⟨_, o, ho, _⟩ := I3.stack.mem hb
    exact Heap.lt_size ho
  have nC : ∀ b ∈ frs X.stack, b ≠ ce.locals := fun b hb e => by
    have := nfs b hb
    rw [e, cL] at this
    exact Nat.lt_irrefl _ this
  obtain ⟨m, hm, _⟩ := I.loc
  have hm : sI.heap.Ns ce.locals m := hm
  obtain ⟨oC, eC, pC, hoC, hrC⟩ := id hm
  have hCB : B.get? ce.locals = some oC := nb _ _ hoC fun hb => nC _ hb rfl
  have hn : noteFrame (.ref a) ce = noteFrame (.ref a) X.env := by
    unfold noteFrame PySem.frameOf
    rw [cF]
  show wpAny _ _ (noteFrame (.ref a) ce) _ _ s'
  rw [hn]
  have sky' : Sky B (X.env :: X.outer) a (Zc cls d) ce.locals s'.heap := by rw [← hs]; exact sky
  refine look_sky Zc.steady hfr hf hCL sky' fun h1 hh1 up1 => ?_
  rw [← hs] at hh1
  have goal : ∃ m, h1.Ns ce.locals m ∧ ∀ h', Heap.SameBut ce.locals h1 h' → ∀ c2 : Env, c2.frame = ce.frame → wpAny (model X.prog X.w) X.A (PySem.passOn "comprehension.variables-let-go" (.ref a) c2 : Sem Value) (fun _ _ => False) X.xe { s' with heap := h' } := by
    refine ⟨m, ⟨oC, eC, pC, hh1.1 _ _ hCB, hrC⟩, fun h' sb c2 hc2 => ?_⟩
    have hh2 := held_let hh1 hCB sb nC
    obtain ⟨k1, k2, k3, k4⟩ := hh2
    unfold PySem.passOn
    obtain ⟨oe, vs, T, oT, ts, he, hz, hd, h1v, _⟩ := id k4
    refine wpAny_bind (wpAny_field he hd h1v ?_)
    rw [if_neg (show ¬ ((Value.ref T == Value.none) = true) from by simp)]
    rw [hc2, cF, hf]
    refine wpAny_bind (HandSPX.setFlight_onZ (base := PySem.W.hideAll B [ce.locals]) (L := X.env.locals) (l := X.stack) ⟨k1, k2, k3, k4⟩ fun h2 hh2 up2 => wpAny_throw (tk _ _ ?_))
    have gone : ∀ {h : Heap} {b : Addr} {o : Obj}, (PySem.W.hideAll h [ce.locals]).get? b = some o → h.get? b = some o ∧ b ≠ ce.locals := fun {h b o} q => by
      refine ⟨PySem.W.of_hideAll _ q, fun z => ?_⟩
      rw [PySem.W.hideAll_none [ce.locals] (by rw [z]; simp)] at q
      cases q
    have stay : ∀ {h : Heap} {b : Addr} {o : Obj}, h.get? b = some o → b ≠ ce.locals → (PySem.W.hideAll h [ce.locals]).get? b = some o := fun {h b o} q n => PySem.W.hideAll_get _ q (by simpa using n)
    have old : ∀ {b : Addr} {o : Obj}, s3.heap.get? b = some o → b ≠ ce.locals := fun {b o} q => by
      rw [cL]
      exact Nat.ne_of_lt (Heap.lt_size q)
    have u0 : Un (frs X.stack) fp H3 H s3.heap sI.heap := I.base
    have nH : H ce.locals = none := I.free
    have J : Inv X pins σ H { sI with heap := PySem.W.hideAll sI.heap [ce.locals] } := by
      refine I3.call' (ch := fp) I.os ⟨fun b o q n h1 h2 => stay (u0.keep b o q n h1 h2) (old q), fun b o q n h1 h2 => ?_, u0.free, fun b o q h1 => ?_, u0.tups, u0.frzs, u0.tbls⟩ (fun b o q => ?_) I.bare fun b hb => ⟨(f3 b hb).1.2.2.2.1, (f3 b hb).1.2.1, (f3 b hb).1.2.2.2.2.1, (f3 b hb).1.2.2.2.2.2⟩
      · obtain ⟨sl, z⟩ := u0.slot b o q n h1 h2
        exact ⟨sl, stay z (old q)⟩
      · obtain ⟨o', z⟩ := u0.there b o q h1
        exact ⟨o', stay z (old q)⟩
      · refine (I.hok b o q).stay (fun c u hc r => stay r fun z => ?_) (fun _ r => r) fun _ _ r => r
        subst z
        rcases hc with hc | hc
        · rw [hc, q] at nH; cases nH
        · rw [hc] at nH; cases nH
    refine ⟨a, PySem.W.hideAll B [ce.locals], _, pins, σ, H, cls, d, rfl, J, fun b o q hb => ?_, fun b o q hnf => ?_, .inr (.inr hh2), na, os, ag, hW _ _ _ _ w⟩
    · obtain ⟨q1, q2⟩ := gone q
      exact stay (nb b o q1 hb) q2
    · obtain ⟨q1, q2⟩ := gone q
      obtain ⟨sl1, z1⟩ := up b o q1 hnf
      obtain ⟨sl2, z2⟩ := up1 b _ z1 hnf
      obtain ⟨sl3, z3⟩ := up2 b _ ((sb.2 b q2).trans z2) hnf
      exact ⟨sl3, z3⟩
  cases use <;> exact goal
theorem inv_ofBlkX {s s' : Shared} {H H' : Hp} {scope : Scope} {cenv : Env} {fp : List Addr} {p : List (Addr × Obj)} {xe : Value → Shared → Prop} (I : Inv (blkX X s H scope cenv fp xe) p σ H' s') : Inv (X.blk s H scope cenv fp) p σ H' s' :=
  ⟨⟨I.ok.mod, I.ok.kind, I.ok.glob, I.ok.blt, I.ok.above, I.ok.inj, I.ok.has, I.ok.cab, I.ok.hd, I.ok.frames, I.ok.stk, I.ok.exf, I.ok.bs, I.ok.bsz, I.ok.noex, I.ok.exfs, I.ok.funs, I.ok.frf⟩, I.os, I.bare, I.base, I.loc, I.cell, I.free, I.freeC, I.pin, I.hok, I.len⟩
/-- the tests and the element, whatever the block; what they may let out -/
structure ElX (X : Cx) (scope : Scope) (elt : Expr) (ifs : List Expr) (tt : L2.TT) (te : L2.TE) (WB : WX) : Prop where
  t : ∀ (s : Shared) (H : Hp) (C : Addr) (cl : List (Str × Addr)) (fp : List Addr) (xe : Value → Shared → Prop), Takes (blkX X s H scope (compEnvC scope cl C X.env) fp xe) WB → PTs (blkX X s H scope (compEnvC scope cl C X.env) fp xe) ifs tt
  e : ∀ (s : Shared) (H : Hp) (C : Addr) (cl : List (Str × Addr)) (fp : List Addr) (xe : Value → Shared → Prop), Takes (blkX X s H scope (compEnvC scope cl C X.env) fp xe) WB → PE (blkX X s H scope (compEnvC scope cl C X.env) fp xe) elt te
def tLcX (X : Cx) (W : WX) (scope : Scope) (elt : Expr) (ifs : List Expr) (wi : L2.TI) (g : L2.TG) (vs : List Nat) : L2.TE := fun σ H Q => wi σ H fun J H1 => ∃ tt te WB, ElX X scope elt ifs tt te WB ∧ (∀ cls d σ' H', WB cls d σ' H' → W cls d σ H') ∧
  ∀ D, H1 D = none → ∃ Wv : Nat → Nat → Hp → Prop, (∃ m, Wv 0 m (upd H1 D (.lst []))) ∧ ∀ i m H, Wv i m H →
  (J.stop i H ∧ Q (.ref D) H) ∨ (J.go i H ∧ ∃ Nx : Hp → Prop, (∀ H', Nx H' → ∃ m', m' < m ∧ Wv (i + 1) m' H') ∧ ∀ x H', J.yld i H x H' → g x (L2.wipe σ vs) H' fun σ2 H2 => L2.wipe σ2 vs = L2.wipe σ vs ∧ tt σ2 H2 fun b H3 =>
    if b = true then te σ2 H3 fun y H4 => ∃ acc, H4 D = some (.lst acc) ∧ acc.length < sizeLine ∧ Nx (upd H4 D (.lst (acc ++ [y]))) else Nx H3)
theorem lc_coreX {s : Shared} {H : Hp} {Q : VK} {elt tg iter : Expr} {ifs : List Expr} {scope : Scope} {own : List (Str × Nat)} {pos pos' : Pos} {wi : L2.TI} {g : L2.TG} {W : WX} {use : Option (Value → Sem Unit)} {Qf : Value → Shared → Prop}
    (hst : X.stack = X.env :: X.outer) (hf : X.env.frame = some X.env.locals) (tk : Takes X W)
    (hc : X.calm = true) (hN : X.N.Nodup) (I : Inv X pins σ H s) (hi : PI X tg iter wi) (ok : BlkOk X.N X.env.scope scope own)
    (hg : ∀ (s : Shared) (H : Hp) (C : Addr) (cl : List (Str × Addr)) (fp : List Addr), PG (X.blk s H scope (compEnvC scope cl C X.env) fp) tg g) (hs : ∀ x, foldedSetIterable iter X.env x = pure x)
    (h : tLcX X W scope elt ifs wi g (own.map (·.2)) σ H Q)
    (hRR : ∀ D ce s' m H', ce.locals = ce.locals → Inv X pins σ H' s' → Q (.ref D) H' → s'.heap.Ns ce.locals m → FpOk X pins H' ce.locals → compPostX (model X.prog X.w) X.A X.xe use Qf (.ref D) ce (.ok .next) s') :
    wpAny (model X.prog X.w) X.A (comprehension (.ListComp elt [⟨tg, iter, ifs, 0⟩] scope pos) scope X.env pos' (newList []) false (eval iter X.env) use) Qf X.xe s := by
  have hfree : ∀ y ∈ scope.names, y.2 = .free → ∃ c, X.env.cells.lookup y.1 = some c := fun y hy e => by
    rcases ok.free y hy e with k | k
    · exact I.ok.has _ (.inl k)
    · exact I.ok.has _ (.inr k)
  refine comprehension_freeX (use := use) rfl hs (closure_ok hfree) ok.kind (fun y hy e => by rw [ok.uniq y hy, e])
    (thn (hi.run pins s σ H _ I h) fun xv s1 hx => thn hx fun itv s2 h2 => ?_)
  obtain ⟨it, fp, tn, J, H2, e, I2, T, st2, f2, q⟩ := h2
  subst e
  obtain ⟨tt, te, WB, el, hWB, q⟩ := q
  refine wpAny_newObj_type (newEnv_comp ?_) (by show 0 ≤ sizeLine; decide)
  generalize hD : s2.heap.objs.size = D
  have hDn : H2 D = none := I2.hok.fresh (Nat.le_of_eq hD)
  obtain ⟨Wv, ⟨m0, w0⟩, turn⟩ := q D hDn
  -- the new list
  generalize hs3 : ({ s2 with heap := s2.heap.push { cls := .type "list", data := .seq ([] : List Value).toArray } } : Shared) = s3
  have I3 : Inv X pins σ (upd H2 D (.lst [])) s3 := by
    rw [← hs3]
    refine I2.laid (t' := s2.toks) (fun b o e => Heap.get?_push_of_some _ e) (Nat.le_of_eq hD) ⟨Nat.zero_le _, [], 0, .nil, ?_⟩
    rw [← hD]
    exact Heap.get?_push_size _ rfl
  have h3 : s3.heap = s2.heap.push { cls := .type "list", data := .seq ([] : List Value).toArray } := by rw [← hs3]
  have sz : ∀ b ∈ fp, b < s2.heap.objs.size := fun b hb => by
    obtain ⟨o, e, _⟩ := T.obj _ _ st2 b hb
    exact Heap.lt_size e
  have f3 : ∀ b ∈ fp, FpOk X pins (upd H2 D (.lst [])) b ∧ b < s3.heap.objs.size := fun b hb => by
    have hlt := sz b hb
    refine ⟨⟨?_, (f2 b hb).2⟩, by rw [h3, Heap.size_push]; exact Nat.lt_succ_of_lt hlt⟩
    rw [upd_ne (by rw [← hD]; exact Nat.ne_of_lt hlt)]
    exact (f2 b hb).1
  have st3 : tn 0 s3.heap := T.keep _ _ _ st2 fun b _ o e => by rw [h3]; exact Heap.get?_push_of_some _ e
  have I4 := block_start I3 ok hN f3
  have pg := hg s3 (upd H2 D (.lst [])) s3.heap.objs.size (cellsFrom (s3.heap.objs.size + 1) scope.names (cloFrom X.env.cells scope.names [])) fp
  have pt := el.t s3 (upd H2 D (.lst [])) s3.heap.objs.size (cellsFrom (s3.heap.objs.size + 1) scope.names (cloFrom X.env.cells scope.names [])) fp
  have pe := el.e s3 (upd H2 D (.lst [])) s3.heap.objs.size (cellsFrom (s3.heap.objs.size + 1) scope.names (cloFrom X.env.cells scope.names [])) fp
  show codeAny _ _ (.compStart (.ListComp elt [⟨tg, iter, ifs, 0⟩] scope pos) 0 (.ref it) (.ref D) (compEnvC scope (cellsFrom (s3.heap.objs.size + 1) scope.names (cloFrom X.env.cells scope.names [])) s3.heap.objs.size X.env)) (compPostX (model X.prog X.w) X.A X.xe use Qf (.ref D) (compEnvC scope (cellsFrom (s3.heap.objs.size + 1) scope.names (cloFrom X.env.cells scope.names [])) s3.heap.objs.size X.env)) { s3 with heap := pushCells (s3.heap.push { cls := .type "dict", data := .dict #[] }) scope.names }
  have nfp : ∀ b ∈ fp, (upd H2 D (.lst [])) b = none := fun b hb => (f3 b hb).1.1
  generalize hce : compEnvC scope (cellsFrom (s3.heap.objs.size + 1) scope.names (cloFrom X.env.cells scope.names [])) s3.heap.objs.size X.env = ce at I4 pg pt pe ⊢
  have cL : ce.locals = s3.heap.objs.size := by subst hce; rfl
  have cF : ce.frame = X.env.frame := by subst hce; rfl
  generalize hH3 : upd H2 D (.lst []) = H3 at I3 I4 pg pt pe w0 nfp f3
  have tkB := blk_takes (scope := scope) (use := use) (Qf := Qf) (acc := .ref D) I3 hst hf tk hWB cL cF f3
  have pt := pt _ tkB
  have pe := pe _ tkB
  generalize hs4 : ({ s3 with heap := pushCells (s3.heap.push { cls := .type "dict", data := .dict #[] }) scope.names } : Shared) = s4 at I4 ⊢
  have st4 : tn 0 s4.heap := T.keep _ _ _ st3 fun b _ o e => by rw [← hs4]; exact pushCells_keeps _ _ _ _ (Heap.get?_push_of_some _ e)
  have stat : ∀ {σ' : St} {H' : Hp} {s' : Shared}, Inv (X.blk s3 H3 scope ce fp) [] σ' H' s' → (∀ b ∈ fp, H' b = none) → ∀ b ∈ fp, FpOk (X.blk s3 H3 scope ce fp) [] H' b := fun {σ' H' s'} I' hn b hb =>
    ⟨hn b hb, (I'.ok.exf b hb).1, I'.ok.exfs b hb, .inl hb, fun x c e => (I'.ok.exf b hb).2 x c e, fun p hp => absurd (show p ∈ ([] : List (Addr × Obj)) ++ [] from hp) (by simp)⟩
  have loop : codeAny (model X.prog X.w) X.A (.compLoop (.ListComp elt [⟨tg, iter, ifs, 0⟩] scope pos) 0 (.ref it) (.ref D) ce) (compPostX (model X.prog X.w) X.A X.xe use Qf (.ref D) ce) s4 := by
    refine compLoop_any (fun n s' => ∃ i H', Inv (X.blk s3 H3 scope ce fp) [] (L2.wipe σ (own.map (·.2))) H' s' ∧ tn i s'.heap ∧ (∀ b ∈ fp, H' b = none) ∧ Wv i n H') ?_ m0 ⟨0, H3, I4, st4, nfp, w0⟩
    rintro n s5 ⟨i, H5, I5, st5, n5, w5⟩
    rcases turn i n H5 w5 with ⟨stop, qq⟩ | ⟨go, Nx, hNx, step⟩
    · have td := T.done (X.blk s3 H3 scope ce fp) rfl rfl rfl hc i [] s5 _ H5 (fun _ _ => False) I5 (stat I5 n5) st5 stop
      refine thnF td fun r s6 ⟨hr, I6⟩ => ?_
      subst hr
      -- back in the def's context
      have I7 : Inv X pins σ H5 s6 := I3.call' (ch := fp) I6.os I6.base I6.hok I6.bare fun b hb => ⟨(f3 b hb).1.2.2.2.1, (f3 b hb).1.2.1, (f3 b hb).1.2.2.2.2.1, (f3 b hb).1.2.2.2.2.2⟩
      have nC : H5 s3.heap.objs.size = none := by
        have z : H5 ce.locals = none := I6.free
        rw [cL] at z
        exact z
      obtain ⟨m, hn, _⟩ := I6.loc
      have hn : s6.heap.Ns ce.locals m := hn
      exact hRR D ce s6 m H5 rfl I7 qq hn (by rw [cL]; exact I3.fpOk (Nat.le_refl _) nC)
    · have ti := T.item (X.blk s3 H3 scope ce fp) rfl rfl rfl hc i [] s5 _ H5 (fun _ _ => False) I5 (stat I5 n5) st5 go
      refine thnF ti fun r s6 ⟨u, hr, h6⟩ => ?_
      subst hr
      refine thnF h6 fun _ s7 ⟨x, H7, I7, r7, y7, st7, n7⟩ => ?_
      have I7' := I7.pinned (stat I7 n7) (T.obj _ _ st7)
      refine thnF (pg.run _ s7 _ H7 x u _ I7' r7 (step x H7 y7)) fun _ s8 ⟨σ8, H8, I8, hw8, q8⟩ => ?_
      refine wpAny_mono (pt.run _ s8 σ8 H8 _ (inv_blkX I8 _) q8) (fun b s9 ⟨H9, I9, q9⟩ => ?_) fun _ _ z => z
      -- the turn's end
      have fin : ∀ {s' : Shared} {H' : Hp}, Inv (X.blk s3 H3 scope ce fp) ([] ++ pinsAt fp s7.heap) σ8 H' s' → Nx H' → ∃ m, m < n ∧ ∃ i H', Inv (X.blk s3 H3 scope ce fp) [] (L2.wipe σ (own.map (·.2))) H' s' ∧ tn i s'.heap ∧ (∀ b ∈ fp, H' b = none) ∧ Wv i m H' := fun {s' H'} I' nx => by
        obtain ⟨m', hm, w'⟩ := hNx H' nx
        have pin' : ∀ b ∈ fp, ∀ o, s7.heap.get? b = some o → s'.heap.get? b = some o ∧ H' b = none := fun b hb o e =>
          let z := I'.pin (b, o) (List.mem_append_right _ (List.mem_append_right _ (mem_pinsAt hb e)))
          ⟨z.1, z.2.1⟩
        have hl : (L2.wipe σ (own.map (·.2))).length = σ8.length := by rw [← hw8, wipe_length]
        refine ⟨m', hm, i + 1, H', (I'.unpinned (pins := [])).weak hl (fun j v e => ?_), T.keep _ _ _ st7 fun b hb o e => (pin' b hb o e).1, fun b hb => ?_, w'⟩
        · rw [← hw8] at e
          exact (wipe_some e).1
        · obtain ⟨o, e, _⟩ := T.obj _ _ st7 b hb
          exact (pin' b hb o e).2
      cases b with
      | false =>
        simp only [Bool.false_eq_true, if_false] at q9 ⊢
        exact fin (inv_ofBlkX I9) q9
      | true =>
        simp only [if_true] at q9 ⊢
        refine wpAny_mono (pe.run _ s9 σ8 H9 _ I9 q9) (fun z s10 ⟨yv, H10, I10, r10, acc, hD10, hz10, nx⟩ => ?_) fun _ _ z => z
        exact app_ok (X := X.blk s3 H3 scope ce fp) (inv_ofBlkX I10) hD10 hz10 r10 fun s11 I11 => fin I11 nx
  exact codeAny_compStart_list loop (T.self X.A 0 _ _ _ st4 loop)
theorem pe_lcX {elt tg iter : Expr} {ifs : List Expr} {scope : Scope} {own : List (Str × Nat)} {pos : Pos} {wi : L2.TI} {g : L2.TG} {W : WX} (hst : X.stack = X.env :: X.outer) (hf : X.env.frame = some X.env.locals) (tk : Takes X W) (hc : X.calm = true) (hN : X.N.Nodup) (hi : PI X tg iter wi) (ok : BlkOk X.N X.env.scope scope own)
    (hg : ∀ (s : Shared) (H : Hp) (C : Addr) (cl : List (Str × Addr)) (fp : List Addr), PG (X.blk s H scope (compEnvC scope cl C X.env) fp) tg g) (hs : ∀ x, foldedSetIterable iter X.env x = pure x := by intro _; rfl) :
    PE X (.ListComp elt [⟨tg, iter, ifs, 0⟩] scope pos) (tLcX X W scope elt ifs wi g (own.map (·.2))) := by
  refine ⟨fun pins s σ H Q I h => ?_⟩
  rw [eval_ListComp]
  refine lc_coreX hst hf tk hc hN I hi ok hg hs h fun D ce s' m H' _ I' q hn f => ⟨m, hn, fun h'' sb => ?_⟩
  obtain ⟨f0, f1, f2, f3, f4, f5⟩ := f
  exact ⟨.ref D, H', I'.turned (t' := s'.toks) (fun b o hb e => (sb.2 b hb).trans e) f0 f1 f3 f4 f5, rfl, q⟩
theorem ps_setLcX {i : Nat} {y : Str} {py : Pos} {elt tg iter : Expr} {ifs : List Expr} {scope : Scope} {own : List (Str × Nat)} {pos spos : Pos} {wi : L2.TI} {g : L2.TG} {W : WX} (hst : X.stack = X.env :: X.outer) (hf : X.env.frame = some X.env.locals) (tk : Takes X W)
    (hc : X.calm = true) (hN : X.N.Nodup) (hy : X.N[i]? = some y) (hyl : X.env.scope.names.lookup y = some .local)
    (hsw : swapsWith (.ListComp elt [⟨tg, iter, ifs, 0⟩] scope pos) (some (.Name y py)) spos.line X.env = pure true) (hi : PI X tg iter wi) (ok : BlkOk X.N X.env.scope scope own)
    (hg : ∀ (s : Shared) (H : Hp) (C : Addr) (cl : List (Str × Addr)) (fp : List Addr), PG (X.blk s H scope (compEnvC scope cl C X.env) fp) tg g) (hs : ∀ x, foldedSetIterable iter X.env x = pure x := by intro _; rfl) :
    PS X (.Assign [.Name y py] (.ListComp elt [⟨tg, iter, ifs, 0⟩] scope pos) spos) (tAsg (tLcX X W scope elt ifs wi g (own.map (·.2))) (L2.gName i)) := by
  refine ⟨fun pins s σ H D I h => ?_⟩
  rw [exec_Assign_Name_used _ _ _ _ hsw]
  refine wpAny_bind (wpAny_standAt (wpAny_bind ?_))
  show wpAny _ X.A (do let _ ← comprehension (.ListComp elt [⟨tg, iter, ifs, 0⟩] scope pos) scope X.env (firstIterPos [⟨tg, iter, ifs, 0⟩] pos) (newList []) false (eval iter X.env) (some (assign (.Name y py) X.env))) _ _ s
  have h : tLcX X W scope elt ifs wi g (own.map (·.2)) σ H (fun x H1 => L2.gName i x σ H1 D.nx) := h
  refine wpAny_bind (thn (lc_coreX (Qf := fun _ s' => SP X pins D .next s') hst hf tk hc hN I hi ok hg hs h fun L ce s' m H' _ I' q hn f => ?_) fun _ s' hq => wpAny_pure (wpAny_pure hq))
  show wpAny _ _ (assign (.Name y py) X.env (.ref L)) _ _ _
  refine wpAny_assign_Name (store_ok2 (v := V.ref L) I' hN hy (.inl hyl) rfl (fun s2 I2 ⟨a, sb, ha⟩ => ?_) (.inr hyl))
  obtain ⟨f0, f1, f2, f3, f4, f5⟩ := f
  have haC : ce.locals ≠ a := by
    rcases ha with z | z
    · rw [z]; exact f1
    · exact fun e => f4 y a z e.symm
  refine ⟨m, hn.sameBut sb haC, fun h3 sb3 => ?_⟩
  exact ⟨_, H', I2.turned (t' := s2.toks) (fun b o hb e => (sb3.2 b hb).trans e) f0 f1 f3 f4 f5, q⟩
end
/-! ### by values -/
def canEZ (K : Frag) (E : EX) (t3 : TE) : L2.TE := fun σ H Q => ∃ γ G Q3, RepS K E.h0 H γ σ ∧ Rel K H G ∧ t3 γ G (E γ) Q3 ∧ ∀ v H' w G', Ext K H H' → Rel K H' G' → Rep K H' w v → Q3 w G' → Q v H'
def canTZ (K : Frag) (E : EX) (t3 : TT) : L2.TT := fun σ H Q => ∃ γ G Q3, RepS K E.h0 H γ σ ∧ Rel K H G ∧ t3 γ G (E γ) Q3 ∧ ∀ b H' G', Ext K H H' → Rel K H' G' → Q3 b G' → Q b H'
theorem PE3.canZ {X : Cx} {e : Expr} {te : TE} (h : PE3 X e te) (E : EX) (tk : TakesE X E) : PE X e (canEZ X.K E te) := by
  refine ⟨fun pins s σ H Q I ⟨γ, G, Q3, hs, hr, h3, k⟩ => ?_⟩
  obtain ⟨t, p, q⟩ := h E tk
  exact p.run pins s σ H Q I (q σ H γ G Q3 Q hs hr h3 k)
theorem PT3.canZ {X : Cx} {e : Expr} {te : TT} (h : PT3 X e te) (E : EX) (tk : TakesE X E) : PT X e (canTZ X.K E te) := by
  refine ⟨fun pins s σ H Q I ⟨γ, G, Q3, hs, hr, h3, k⟩ => ?_⟩
  obtain ⟨t, p, q⟩ := h E tk
  exact p.run pins s σ H Q I (q σ H γ G Q3 Q hs hr h3 k)
def PTs3X (X : Cx) (ifs : List Expr) (t3 : TT) : Prop := ∀ E : EX, TakesE X E → PTs X ifs (canTZ X.K E t3)
theorem pts3x_nil {X : Cx} : PTs3X X [] tYes := fun E tk => ⟨fun pins s σ H Q I ⟨γ, G, Q3, hs, hr, h3, k⟩ => pts_nil.run pins s σ H Q I (k true H G .refl hr h3)⟩
theorem pts3x_one {X : Cx} {c : Expr} {t : TT} (h : PT3 X c t) : PTs3X X [c] t := fun E tk => pts_one (h.canZ E tk)
section
variable {X : Cx}
theorem lc_simX {J : L2.It} {J3 : It} {g3 : TG} {t3 : TT} {e3 : TE} {is vs : List Nat} {Q3 : QV} {Q : VK} {all : List W} {σ : St} {H : Hp} {γ : Fr} {G : Gh} {D : Addr} {x0 : XQ}
    (hJ : SimIt X.K H J J3) (hv : ∀ i ∈ is, i ∈ vs) (hs : RepS X.K H H γ σ) (hr : Rel X.K (upd H D (.lst [])) (up G D (.lst []))) (hD : H D = none)
    (h : lcL J3 all g3 t3 e3 (wipe γ vs) D x0 Q3 all [] (up G D (.lst []))) (k : ∀ v H' w G', Ext X.K H H' → Rel X.K H' G' → Rep X.K H' w v → Q3 w G' → Q v H') :
    ∃ Wv : Nat → Nat → Hp → Prop, (∃ m, Wv 0 m (upd H D (.lst []))) ∧ ∀ i m H1, Wv i m H1 →
      (J.stop i H1 ∧ Q (.ref D) H1) ∨ (J.go i H1 ∧ ∃ Nx : Hp → Prop, (∀ H', Nx H' → ∃ m', m' < m ∧ Wv (i + 1) m' H') ∧ ∀ x H', J.yld i H1 x H' → canG X.K is g3 x (L2.wipe σ vs) H' fun σ2 H2 => L2.wipe σ2 vs = L2.wipe σ vs ∧ canTZ X.K ⟨fun _ => x0, H⟩ t3 σ2 H2 fun b H3 =>
        if b = true then canEZ X.K ⟨fun _ => x0, H⟩ e3 σ2 H3 fun y H4 => ∃ acc, H4 D = some (.lst acc) ∧ acc.length < sizeLine ∧ Nx (upd H4 D (.lst (acc ++ [y]))) else Nx H3) := by
  refine ⟨fun i m H' => m = all.length - i ∧ i ≤ all.length ∧ ∃ acc G', Ext X.K H H' ∧ Rel X.K H' G' ∧ lcL J3 all g3 t3 e3 (wipe γ vs) D x0 Q3 (all.drop i) acc G', ⟨_, rfl, Nat.zero_le _, [], _, .new hD, hr, h⟩, ?_⟩
  rintro i m H1 ⟨rfl, hi, acc, G1, x1, r1, h1⟩
  by_cases hlt : i < all.length
  · rw [List.drop_eq_getElem_cons hlt, lcL] at h1
    obtain ⟨ej, eD, h1⟩ := h1
    obtain ⟨go, yl⟩ := (hJ i H1 G1 all x1 r1 ej).1 all[i] (by simp [hlt])
    refine .inr ⟨go, fun H' => ∃ acc G', Ext X.K H H' ∧ Rel X.K H' G' ∧ lcL J3 all g3 t3 e3 (wipe γ vs) D x0 Q3 (all.drop (i + 1)) acc G', fun H' q => ⟨_, by omega, rfl, hlt, q⟩, fun x H2 y => ?_⟩
    obtain ⟨x2, r2, rx⟩ := yl x H2 y
    have hs2 : RepS X.K H H2 (wipe γ vs) (L2.wipe σ vs) := (hs.wipe vs).ext (x1.trans x2)
    refine ⟨_, _, _, _, _, hs2, r2, rx, h1, fun σ3 H3 γ3 G3 x3 s3 r3 o3 h3 => ⟨(o3.wiped hv).trans wipe_wipe, _, _, _, s3, r3, h3, fun b H4 G4 x4 r4 h4 => ?_⟩⟩
    cases b with
    | true =>
      refine iteT ⟨_, _, _, s3.ext x4, r4, by simpa using h4, fun v5 H5 w5 G5 x5 r5 rv5 h5 => ?_⟩
      obtain ⟨e5, z5, h5⟩ := h5
      obtain ⟨xs, ex, rx⟩ := r5.lst e5
      refine ⟨xs, ex, by rw [← rx.length]; exact z5, acc ++ [w5], _, ?_, ?_, h5⟩
      · exact (((x1.trans x2).trans x3).trans (x4.trans x5)).trans (.write (by rw [ex]; trivial))
      · exact r5.write (by rw [ex]; trivial) ⟨_, upd_same, (rx.append (.one rv5)).ext (.write (by rw [ex]; trivial))⟩
    | false => exact iteF ⟨acc, _, ((x1.trans x2).trans x3).trans x4, r4, by simpa using h4⟩
  · have e : i = all.length := by omega
    subst e
    rw [List.drop_length, lcL] at h1
    exact .inl ⟨(hJ _ H1 G1 all x1 r1 h1.1).2 (Nat.le_refl _), k _ H1 _ G1 x1 r1 rref h1.2.2⟩
theorem lowX_out {K : Frag} {E : EX} {σ : St} {H H1 : Hp} {γ : Fr} (hs : RepS K E.h0 H γ σ) (x : Ext K H H1) (cls : Value) (d : Option Addr) (σ' : St) (H' : Hp) (w : lowX K ⟨fun _ => E γ, H1⟩ cls d σ' H') : lowX K E cls d σ H' := by
  obtain ⟨γ', G, u, ws, hs', hr, e1, e2, e3⟩ := w
  exact ⟨γ, G, u, ws, hs.ext (x.trans hs'.x), hr, e1, e2, e3⟩
theorem pe3_lcX {elt tg iter : Expr} {ifs : List Expr} {scope : Scope} {own : List (Str × Nat)} {is : List Nat} {pos : Pos} {wi : TI} {g : TG} {tt : TT} {te : TE} (hst : X.stack = X.env :: X.outer) (hf : X.env.frame = some X.env.locals) (hc : X.calm = true) (hN : X.N.Nodup) (hi : PI3 X tg iter wi) (ok : BlkOk X.N X.env.scope scope own)
    (hg : ∀ (s : Shared) (H : Hp) (C : Addr) (cl : List (Str × Addr)) (fp : List Addr), PG3 (X.blk s H scope (compEnvC scope cl C X.env) fp) tg is g) (ht : ∀ (s : Shared) (H : Hp) (C : Addr) (cl : List (Str × Addr)) (fp : List Addr) (xe : Value → Shared → Prop), PTs3X (blkX X s H scope (compEnvC scope cl C X.env) fp xe) ifs tt)
    (he : ∀ (s : Shared) (H : Hp) (C : Addr) (cl : List (Str × Addr)) (fp : List Addr) (xe : Value → Shared → Prop), PE3 (blkX X s H scope (compEnvC scope cl C X.env) fp xe) elt te) (hv : ∀ i ∈ is, i ∈ own.map (·.2) := by decide) (hs : ∀ x, foldedSetIterable iter X.env x = pure x := by intro _; rfl) :
    PE3 X (.ListComp elt [⟨tg, iter, ifs, 0⟩] scope pos) (eLcX wi g tt te (own.map (·.2))) := fun E tk => by
  obtain ⟨t1, p1, q1⟩ := hi E tk
  refine ⟨_, pe_lcX (W := lowX X.K E) (g := canG X.K is g) hst hf tk hc hN p1 ok (fun s H C cl fp => (hg s H C cl fp).can) hs, fun σ H γ G Q3 Q hs hr h3 k => ?_⟩
  refine q1 σ H γ G _ _ hs hr h3 fun J J3 H1 G1 x r sj h => ?_
  refine ⟨canTZ X.K ⟨fun _ => E γ, H1⟩ tt, canEZ X.K ⟨fun _ => E γ, H1⟩ te, lowX X.K ⟨fun _ => E γ, H1⟩, ⟨fun s H C cl fp xe tb => ht s H C cl fp xe _ tb, fun s H C cl fp xe tb => (he s H C cl fp xe).canZ _ tb⟩, lowX_out hs x, fun D hD => ?_⟩
  obtain ⟨all, _, h⟩ := h D (r.free hD)
  exact lc_simX sj hv ⟨(hs.ext x).f, .refl⟩ (r.new hD ⟨_, upd_same, .nil⟩) hD h fun v H' w G' y => k v H' w G' (x.trans y)
theorem ps3_setLcX {i : Nat} {y : Str} {py : Pos} {elt tg iter : Expr} {ifs : List Expr} {scope : Scope} {own : List (Str × Nat)} {is : List Nat} {pos spos : Pos} {wi : TI} {g : TG} {tt : TT} {te : TE} (hst : X.stack = X.env :: X.outer) (hf : X.env.frame = some X.env.locals) (hc : X.calm = true) (hN : X.N.Nodup) (hy : X.N[i]? = some y) (hyl : X.env.scope.names.lookup y = some .local)
    (hsw : swapsWith (.ListComp elt [⟨tg, iter, ifs, 0⟩] scope pos) (some (.Name y py)) spos.line X.env = pure true) (hi : PI3 X tg iter wi) (ok : BlkOk X.N X.env.scope scope own)
    (hg : ∀ (s : Shared) (H : Hp) (C : Addr) (cl : List (Str × Addr)) (fp : List Addr), PG3 (X.blk s H scope (compEnvC scope cl C X.env) fp) tg is g) (ht : ∀ (s : Shared) (H : Hp) (C : Addr) (cl : List (Str × Addr)) (fp : List Addr) (xe : Value → Shared → Prop), PTs3X (blkX X s H scope (compEnvC scope cl C X.env) fp xe) ifs tt)
    (he : ∀ (s : Shared) (H : Hp) (C : Addr) (cl : List (Str × Addr)) (fp : List Addr) (xe : Value → Shared → Prop), PE3 (blkX X s H scope (compEnvC scope cl C X.env) fp xe) elt te) (hv : ∀ i ∈ is, i ∈ own.map (·.2) := by decide) (hs : ∀ x, foldedSetIterable iter X.env x = pure x := by intro _; rfl) :
    PS3 X (.Assign [.Name y py] (.ListComp elt [⟨tg, iter, ifs, 0⟩] scope pos) spos) (sSet i (eLcX wi g tt te (own.map (·.2)))) := fun E tk => by
  obtain ⟨t1, p1, q1⟩ := hi E tk
  refine ⟨_, ps_setLcX (W := lowX X.K E) (g := canG X.K is g) hst hf tk hc hN hy hyl hsw p1 ok (fun s H C cl fp => (hg s H C cl fp).can) hs, fun D D3 σ H γ G hE ho hs hr h3 => ?_⟩
  have hE' := hE
  refine q1 σ H γ G _ _ hs hr (by rw [← hE']; exact h3) fun J J3 H1 G1 x r sj h => ?_
  refine ⟨canTZ X.K ⟨fun _ => E γ, H1⟩ tt, canEZ X.K ⟨fun _ => E γ, H1⟩ te, lowX X.K ⟨fun _ => E γ, H1⟩, ⟨fun s H C cl fp xe tb => ht s H C cl fp xe _ tb, fun s H C cl fp xe tb => (he s H C cl fp xe).canZ _ tb⟩, lowX_out hs x, fun D hD => ?_⟩
  obtain ⟨all, _, h⟩ := h D (r.free hD)
  rw [hE'] at h
  exact lc_simX sj hv ⟨(hs.ext x).f, .refl⟩ (r.new hD ⟨_, upd_same, .nil⟩) hD h fun v H' w G' y r' rv h => ho.nx _ H' _ G' (x.trans y) ((hs.ext (x.trans y)).put rv) r' h
end
end L3

end
section
set_option maxHeartbeats 2000000
/-! L3SndR: exceptions with fields. -/
namespace L3
open PySem PySem.Spec PyProof.Rows L2
/-- a class of the program whose __init__ sets fields -/
structure ExF (K : Frag) (mg : Str → Option Value) (x : Str) (C fI : Addr) (ns : List (List Nat)) : Prop where
  o : OexC K C
  ini : PySem.W.findIn K (.ref C) "__init__" = some (some (.ref fI))
  tyI : PySem.W.typeIn K (.ref fI) = some (.type "function")
  mgC : mg x = some (.ref C)
  no : ∀ n ∈ ns, PySem.W.findIn K (.ref C) (S n) = some none
  xf : XfC K C
  te : PySem.W.exmOne K (.ref C) (.ref C) = some true
  nd : ns.Nodup
/-- what the __init__ does, in the hand layer's words -/
def spI (C : Addr) (fs : List Str) : L2.Sp := fun vs H Q _ => ∃ a us, vs = .ref a :: us ∧ us.length = fs.length ∧ H a = some (exo a C none) ∧
  ∀ dx H', H dx = none → dx ≠ a → (∀ b, b ≠ a → b ≠ dx → H' b = H b) → H' a = some (exo a C (some dx)) → H' dx = some (exd dx (fs.zip us).reverse) → Q .non H'
section
variable {P : Program} {w : World} {K : Frag} {mg : Str → Option Value} {base : Heap}
theorem ost_first {C a : Addr} {f : Str} {i j : Nat} {u : V} {σ : L2.St} {H : Hp} {D : L2.Ends} (o : OexC K C) (hno : PySem.W.findIn K (.ref C) f = some none) (hi : σ[i]? = some (some (.ref a))) (hj : σ[j]? = some (some u)) (ha : H a = some (exo a C none))
    (k : ∀ dx, H dx = none → dx ≠ a → D.nx σ (upd (upd H dx (exd dx [(f, u)])) a (exo a C (some dx)))) : tOst K f (tVar i) (tVar j) D σ H :=
  ⟨u, hj, .ref a, hi, a, C, rfl, o, hno, .inl ⟨ha, k⟩⟩
theorem ost_next {C a dx : Addr} {f : Str} {i j : Nat} {u : V} {fs : List (Str × V)} {σ : L2.St} {H : Hp} {D : L2.Ends} (o : OexC K C) (hno : PySem.W.findIn K (.ref C) f = some none) (hi : σ[i]? = some (some (.ref a))) (hj : σ[j]? = some (some u)) (ha : H a = some (exo a C (some dx))) (hd : H dx = some (exd dx fs)) (hl : fs.length ≤ 900)
    (k : D.nx σ (upd H dx (exd dx ((f, u) :: fs)))) : tOst K f (tVar i) (tVar j) D σ H :=
  ⟨u, hj, .ref a, hi, a, C, rfl, o, hno, .inr ⟨dx, fs, ha, hd, hl, k⟩⟩
theorem ini2_ok {x f1 f2 : Str} {C fI : Addr} {xI : FuncData} {st : Stmt} {qual p0 p1 p2 : Str} {ns : List (List Nat)} (c : ExF K mg x C fI ns) (F : Fun K "__init__" qual st fI xI) (sc : FnScope [p0, p1, p2] [p0, p1, p2] (defScope st))
    (h1 : PySem.W.findIn K (.ref C) f1 = some none) (h2 : PySem.W.findIn K (.ref C) f2 = some none)
    (term : ∀ cdv A outer s H E, PSs (cxOf (CXM P w) P w K mg base [p0, p1, p2] qual (defScope st) fI cdv A outer s H E) (defBody st) (tSeq (tOst K f1 (tVar 0) (tVar 1)) (tOst K f2 (tVar 0) (tVar 2)))) : FnOk P w K mg base (CXM P w) 1 fI xI [p0, p1, p2] (spI C [f1, f2]) := by
  refine okM0 F sc (fun vs H Q E h => ?_) fun cdv A outer s H vs Q E hr h => ⟨_, term cdv A outer s H E, ?_⟩
  · obtain ⟨a, us, rfl, hl, _⟩ := h
    simp only [List.length_cons, List.length_nil] at hl ⊢
    omega
  · obtain ⟨a, us, rfl, hl, ha, k⟩ := h
    match us, hl with
    | [u1, u2], _ =>
      refine ost_first c.o h1 rfl rfl ha fun dx n ne => ?_
      refine ost_next c.o h2 rfl rfl upd_same ((upd_ne ne).trans upd_same) (by simp) ?_
      refine k dx _ n ne (fun b b1 b2 => ?_) ?_ upd_same
      · rw [upd_ne b2, upd_ne b1, upd_ne b2]
      · rw [upd_ne ne.symm]; exact upd_same
theorem ini3_ok {x f1 f2 f3 : Str} {C fI : Addr} {xI : FuncData} {st : Stmt} {qual p0 p1 p2 p3 : Str} {ns : List (List Nat)} (c : ExF K mg x C fI ns) (F : Fun K "__init__" qual st fI xI) (sc : FnScope [p0, p1, p2, p3] [p0, p1, p2, p3] (defScope st))
    (h1 : PySem.W.findIn K (.ref C) f1 = some none) (h2 : PySem.W.findIn K (.ref C) f2 = some none) (h3 : PySem.W.findIn K (.ref C) f3 = some none)
    (term : ∀ cdv A outer s H E, PSs (cxOf (CXM P w) P w K mg base [p0, p1, p2, p3] qual (defScope st) fI cdv A outer s H E) (defBody st) (tSeq (tOst K f1 (tVar 0) (tVar 1)) (tSeq (tOst K f2 (tVar 0) (tVar 2)) (tOst K f3 (tVar 0) (tVar 3))))) : FnOk P w K mg base (CXM P w) 1 fI xI [p0, p1, p2, p3] (spI C [f1, f2, f3]) := by
  refine okM0 F sc (fun vs H Q E h => ?_) fun cdv A outer s H vs Q E hr h => ⟨_, term cdv A outer s H E, ?_⟩
  · obtain ⟨a, us, rfl, hl, _⟩ := h
    simp only [List.length_cons, List.length_nil] at hl ⊢
    omega
  · obtain ⟨a, us, rfl, hl, ha, k⟩ := h
    match us, hl with
    | [u1, u2, u3], _ =>
      refine ost_first c.o h1 rfl rfl ha fun dx n ne => ?_
      refine ost_next c.o h2 rfl rfl upd_same ((upd_ne ne).trans upd_same) (by simp) ?_
      have na : ∀ {H : Hp} {o}, (upd (upd H a (exo a C (some dx))) dx o) a = some (exo a C (some dx)) := fun {H o} => by rw [upd_ne ne.symm]; exact upd_same
      refine ost_next c.o h3 rfl rfl na upd_same (by simp) ?_
      refine k dx _ n ne (fun b b1 b2 => ?_) ?_ upd_same
      · rw [upd_ne b2, upd_ne b2, upd_ne b1, upd_ne b2]
      · rw [upd_ne ne.symm]; exact na
end
section
variable {X : Cx} {pos : Pos}
theorem exd_xd {H : Hp} {d : Addr} {C : Addr} {ns : List (List Nat)} {ws : List W} {us : List V} (hl : ws.length = ns.length) (nd : ns.Nodup) (r : RepL X.K H ws us) (hd : H d = none) : RelO X.K (upd H d (.xd ((ns.map S).zip us).reverse)) d (.exo C ns ws) := by
  have l2 := r.length
  refine ⟨_, upd_same, ?_, ?_, nd, hl⟩
  · rw [List.map_reverse, List.map_fst_zip (by rw [List.length_map]; omega)]
  · rw [List.map_reverse, List.map_snd_zip (by rw [List.length_map]; omega)]
    exact (r.ext (.new hd)).reverse
theorem ps3_raiseF {x : Str} {C fI : Addr} {ns : List (List Nat)} {fd : FuncData} {ps : List Str} {p cpos : Pos} {e : Expr} {es : List Expr} {ta : TA} (c : ExF X.K X.mg x C fI ns) (F1 : FnOk X.prog X.w X.K X.mg X.base (CXM X.prog X.w) 1 fI fd ps (spI C (ns.map S)))
    (hr : Room 2 X.A) (hb : Binds X.K fd ps []) (hc : X.calm = true) (hg : Gl X x) (ha : PA3 X (e :: es) ta) (hn : ns.length ≤ 900 := by decide) (hdb : (x == ("__debug__" : Str)) = false := by decide)
    (he : starEach (e :: es) X.env = (false, eval e X.env) :: starEach es X.env := by rfl) (hpl : (backTo cpos (starEach es X.env)).any (·.1) = false := by rfl) :
    PS3 X (.Raise (some (.Call (.Name x p) (e :: es) [] cpos)) none pos) (sThrowF C ns ta) := fun E tk => by
  obtain ⟨t, p1, q⟩ := ha E tk
  have hx : Passes (CXM X.prog X.w) X (fun _ _ _ => False) := fun pins σ H s er s' I h => by
    obtain ⟨_, _, _, _, _, _, _, _, _, _, _, _, z⟩ := h
    exact z.elim
  refine ⟨_, ps_raisePM hc tk (pmk_oexM c.o c.ini c.tyI F1 hr hb hx hg c.mgC p1 hdb he hpl), fun D D3 σ H γ G hE ho hs hrr h3 => ?_⟩
  refine q σ H γ G _ _ hs hrr (by rw [← hE]; exact h3) fun us H1 ws G1 x1 r1 rv h3 => ?_
  obtain ⟨hl, h3⟩ := h3
  have l2 := rv.length
  refine ⟨by omega, fun a ha => ?_⟩
  refine ⟨a, us, by simp, by rw [List.length_map]; omega, upd_same, fun dx H' n ne keep e1 e2 => ⟨rfl, dx, _, e1, e2, ?_, ?_⟩⟩
  · rw [upd_ne ne] at n; exact n
  · rw [upd_ne ne] at n
    have eH : upd (L2.del H' a) dx (.xd ((ns.map S).zip us).reverse) = upd H1 dx (.xd ((ns.map S).zip us).reverse) := by
      funext b
      by_cases b1 : b = dx
      · subst b1; rw [upd_same, upd_same]
      · rw [upd_ne b1, upd_ne b1]
        by_cases b2 : b = a
        · subst b2; rw [del_same, ha]
        · rw [del_ne b2, keep b b2 b1, upd_ne b2]
    rw [eH]
    refine ⟨γ, up G1 dx (.exo C ns ws), .ref C, [.ref dx], hs.ext (x1.trans (.new n)), r1.new n (exd_xd hl c.nd rv n), rfl, .inr ⟨dx, rfl, rfl⟩, ?_⟩
    rw [← hE]
    exact h3 dx (r1.free n)
theorem ps3_tryX {x : Str} {C : Addr} {body suite : List Stmt} {b₀ : Stmt} {np pos' : Pos} {tb th : TS} (mgC : X.mg x = some (.ref C)) (te : PySem.W.exmOne X.K (.ref C) (.ref C) = some true) (hs : X.stack = X.env :: X.outer) (hf : X.env.frame = some X.env.locals) (hg : Gl X x)
    (hb : ∀ pn xe, PassesOwn (model X.prog X.w) X.A X.env xe → PSs3 (X.tr pn xe) body tb) (hh : ∀ a pn, HotM (X.suite a pn) → PSs3 (X.suite a pn) (b₀ :: suite) th) (hdb : (x == ("__debug__" : Str)) = false := by decide) :
    PS3 X (.Try body [.ExceptHandler (some (.Name x np)) none (b₀ :: suite) pos'] [] [] pos) (sTryX C tb th) := fun E tk => by
  let wb : WX → L2.TS := fun W D σ H => ∃ γ G D3, (∀ cls d σ' H', Ext X.K H H' → lowX X.K ⟨D3.ex, H⟩ cls d σ' H' → W cls d σ' H') ∧ EndsOk X.K H H D3 D ∧ RepS X.K H H γ σ ∧ Rel X.K H G ∧ tb D3 γ G
  let ws : Addr → Value → Option Addr → L2.TS := fun _ _ _ D σ H => ∃ Z0 γ G D3, EndsOk X.K Z0 H D3 D ∧ RepS X.K Z0 H γ σ ∧ Rel X.K H G ∧ th { D3 with ex := fun _ => X0 } γ G
  refine ⟨_, ps_tryM (c := .ref C) (tb := wb) (ts := ws) hs hf ⟨hg, hdb, .inl mgC⟩ tk (fun W pn xe tkW hp => ⟨fun pins s σ H D I hw => ?_⟩) (fun a oe cls d pn _ _ hot => ⟨fun pins s σ H D I hw => ?_⟩), fun D D3 σ H γ G he ho hsg hr h3 => ?_⟩
  · obtain ⟨γ, G, D3, hle, hends, hr1, hr2, h3⟩ := hw
    have tk' : TakesE (X.tr pn xe) ⟨D3.ex, H⟩ := tkM_imp tkW fun cls d σ' H' z => by
      obtain ⟨γ', G', w, es, q1, q2, q3, q4, q5⟩ := z
      exact hle cls d σ' H' q1.x ⟨γ', G', w, es, q1, q2, q3, q4, q5⟩
    obtain ⟨t, p, q⟩ := hb pn xe hp ⟨D3.ex, H⟩ tk'
    exact p.run pins s σ H D I (q D D3 σ H γ G rfl hends hr1 hr2 h3)
  · obtain ⟨Z0, γ, G, D3, hends, hr1, hr2, h3⟩ := hw
    obtain ⟨t, p, q⟩ := hh a ((a, oe) :: pn) hot ⟨fun _ => X0, Z0⟩ (takes0E Z0)
    exact p.run pins s σ H D I (q D { D3 with ex := fun _ => X0 } σ H γ G rfl ⟨hends.nx, hends.rt, hends.bk, hends.ct⟩ hr1 hr2 h3)
  · refine ⟨γ, G, { D3 with ex := fun γ' w es G' => (match w with | .ref c => c = C ∧ th { D3 with ex := fun _ => X0 } γ' G' | _ => False) }, fun cls d σ' H' x' z => ?_, ?_, ⟨hsg.f, .refl⟩, hr, h3⟩
    · obtain ⟨γ', G', w, es, q1, q2, q3, q4, q5⟩ := z
      simp only at q5
      split at q5
      · obtain ⟨rfl, q5⟩ := q5
        cases q3
        refine ⟨true, te, fun _ a _ => ⟨E.h0, γ', G', D3, ho.ext x', ⟨q1.f, hsg.x.trans x'⟩, q2, q5⟩, fun z => nomatch z⟩
      · exact q5.elim
    · exact ⟨fun σ' H' γ' G' y r q z => ho.nx σ' H' γ' G' y ⟨r.f, hsg.x.trans y⟩ q z, ho.rt, fun σ' H' γ' G' y r q z => ho.bk σ' H' γ' G' y ⟨r.f, hsg.x.trans y⟩ q z, fun σ' H' γ' G' y r q z => ho.ct σ' H' γ' G' y ⟨r.f, hsg.x.trans y⟩ q z⟩
theorem ps3_tryAsX {x n : Str} {i : Nat} {C : Addr} {body suite : List Stmt} {b₀ : Stmt} {np pos pos' : Pos} {tb : TS} {th : Nat → Nat → TS} (mgC : X.mg x = some (.ref C)) (te : PySem.W.exmOne X.K (.ref C) (.ref C) = some true) (hs : X.stack = X.env :: X.outer) (hf : X.env.frame = some X.env.locals) (hN : X.N.Nodup) (hi : X.N[i]? = some n) (hln : X.env.kindOf n = some .local) (hg : Gl X x)
    (hb : ∀ pn xe, PassesOwn (model X.prog X.w) X.A X.env xe → PSs3 (X.tr pn xe) body tb) (hh : ∀ (a d : Addr) (oe : Obj) (pn : List (Addr × Obj)), Zc (.ref C) (some d) oe → (∃ vs, oe.data = .fields vs) → HotM (X.suite a ((a, oe) :: pn)) → PSs3 (X.suite a ((a, oe) :: pn)) (b₀ :: suite) (th a d)) (hdb : (x == ("__debug__" : Str)) = false := by decide) :
    PS3 X (.Try body [.ExceptHandler (some (.Name x np)) (some n) (b₀ :: suite) pos'] [] [] pos) (sTryAsX C i tb th) := fun E tk => by
  let wb : WX → L2.TS := fun W D σ H => ∃ γ G D3, (∀ cls d σ' H', Ext X.K H H' → lowX X.K ⟨D3.ex, H⟩ cls d σ' H' → W cls d σ' H') ∧ EndsOk X.K H H D3 D ∧ RepS X.K H H γ σ ∧ Rel X.K H G ∧ tb D3 γ G
  let ws : Addr → Value → Option Addr → L2.TS := fun a cls d D σ H => cls = .ref C ∧ ∃ d', d = some d' ∧ ∃ Z0 γ G D3, EndsOk X.K Z0 H D3 D ∧ RepS X.K Z0 H γ σ ∧ Rel X.K H G ∧ th a d' { D3 with ex := fun _ => X0 } γ G
  refine ⟨_, ps_tryAsM (c := .ref C) (tb := wb) (ts := ws) hs hf hN hi hln ⟨hg, hdb, .inl mgC⟩ tk (fun W pn xe tkW hp => ⟨fun pins s σ H D I hw => ?_⟩) (fun a oe cls d pn hz hv hot => ⟨fun pins s σ H D I hw => ?_⟩), fun D D3 σ H γ G he ho hsg hr h3 => ?_⟩
  · obtain ⟨γ, G, D3, hle, hends, hr1, hr2, h3⟩ := hw
    have tk' : TakesE (X.tr pn xe) ⟨D3.ex, H⟩ := tkM_imp tkW fun cls d σ' H' z => by
      obtain ⟨γ', G', w, es, q1, q2, q3, q4, q5⟩ := z
      exact hle cls d σ' H' q1.x ⟨γ', G', w, es, q1, q2, q3, q4, q5⟩
    obtain ⟨t, p, q⟩ := hb pn xe hp ⟨D3.ex, H⟩ tk'
    exact p.run pins s σ H D I (q D D3 σ H γ G rfl hends hr1 hr2 h3)
  · obtain ⟨rfl, d', rfl, Z0, γ, G, D3, hends, hr1, hr2, h3⟩ := hw
    obtain ⟨t, p, q⟩ := hh a d' oe pn hz hv hot ⟨fun _ => X0, Z0⟩ (takes0E Z0)
    exact p.run pins s σ H D I (q D { D3 with ex := fun _ => X0 } σ H γ G rfl ⟨hends.nx, hends.rt, hends.bk, hends.ct⟩ hr1 hr2 h3)
  · refine ⟨γ, G, { D3 with ex := fun γ' w es G' => (match w with | .ref c => c = C ∧ ∃ d, es = [.ref d] ∧ ∀ a, G' a = none → th a d { nx := fun γ2 G2 => D3.nx (del γ2 i) G2, rt := D3.rt, bk := fun γ2 G2 => D3.bk (del γ2 i) G2, ct := fun γ2 G2 => D3.ct (del γ2 i) G2, ex := fun _ => X0 } (put γ' i (.ref a)) G' | _ => False) }, fun cls d σ' H' x' z => ?_, ?_, ⟨hsg.f, .refl⟩, hr, h3⟩
    · obtain ⟨γ', G', w, es, q1, q2, q3, q4, q5⟩ := z
      simp only at q5
      split at q5
      · obtain ⟨rfl, d', rfl, q5⟩ := q5
        cases q3
        have hd : d = some d' := by
          rcases q4 with ⟨_, q⟩ | ⟨a, q, q'⟩
          · cases q
          · cases q'; exact q
        refine ⟨true, te, fun _ a ha => ⟨rfl, d', hd, E.h0, put γ' i (.ref a), G', { nx := fun γ2 G2 => D3.nx (del γ2 i) G2, rt := D3.rt, bk := fun γ2 G2 => D3.bk (del γ2 i) G2, ct := fun γ2 G2 => D3.ct (del γ2 i) G2, ex := fun _ => X0 }, ?_, ?_, q2, q5 a (q2.free ha)⟩, fun z => nomatch z⟩
        · have ho' := ho.ext x'
          exact ⟨fun σ2 H2 γ2 G2 y r q z => ho'.nx _ H2 _ G2 y r.del q z, ho'.rt, fun σ2 H2 γ2 G2 y r q z => ho'.bk _ H2 _ G2 y r.del q z, fun σ2 H2 γ2 G2 y r q z => ho'.ct _ H2 _ G2 y r.del q z⟩
        · exact RepS.put ⟨q1.f, hsg.x.trans x'⟩ rref
      · exact q5.elim
    · exact ⟨fun σ' H' γ' G' y r q z => ho.nx σ' H' γ' G' y ⟨r.f, hsg.x.trans y⟩ q z, ho.rt, fun σ' H' γ' G' y r q z => ho.bk σ' H' γ' G' y ⟨r.f, hsg.x.trans y⟩ q z, fun σ' H' γ' G' y r q z => ho.ct σ' H' γ' G' y ⟨r.f, hsg.x.trans y⟩ q z⟩
/-- e.f of a caught error -/
theorem look_rev {fs : List (Str × V)} {ns : List (List Nat)} {ws : List W} {K : Frag} {H : Hp} {k : Nat} {n : List Nat} {w : W} (e1 : fs.map (·.1) = (ns.map S).reverse) (e2 : RepL K H ws.reverse (fs.map (·.2))) (nd : ns.Nodup) (hl : ws.length = ns.length) (hn : ns[k]? = some n) (hw : ws[k]? = some w) :
    ∃ v, fs.lookup (S n) = some v ∧ Rep K H w v := by
  have hk := (List.getElem?_eq_some_iff.mp hn).1
  have hw2 : ws.reverse[ws.length - 1 - k]? = some w := by rw [List.getElem?_reverse (by omega)]; rw [show ws.length - 1 - (ws.length - 1 - k) = k by omega]; exact hw
  obtain ⟨v, g1, g2⟩ := e2.get hw2
  have hn2 : (ns.map S).reverse[ws.length - 1 - k]? = some (S n) := by
    rw [List.getElem?_reverse (by rw [List.length_map]; omega), List.length_map, show ns.length - 1 - (ws.length - 1 - k) = k by omega, List.getElem?_map, hn]; rfl
  rw [← e1] at hn2
  refine ⟨v, ?_, g2⟩
  have ndf : (fs.map (·.1)).Nodup := by
    rw [e1]
    exact List.pairwise_reverse.mpr (List.Pairwise.map (R := fun a b => a ≠ b) S (fun a b h => fun e => h (S_inj e.symm)) nd)
  clear e1 e2 hw2 hn hw hl hk
  revert hn2 g1 ndf
  generalize ws.length - 1 - k = j
  induction fs generalizing j with
  | nil => intro h; simp at h
  | cons p r ih =>
    intro h1 h2 h3
    cases j with
    | zero =>
      simp at h1 h2
      obtain ⟨p1, p2⟩ := p
      simp at h1 h2
      subst h1 h2
      simp [List.lookup]
    | succ j =>
      simp only [List.map_cons, List.getElem?_cons_succ] at h1 h2
      rw [List.map_cons, List.nodup_cons] at h3
      obtain ⟨p1, p2⟩ := p
      have ne : ¬ (S n = p1) := fun z => h3.1 (by rw [← z]; exact List.mem_of_getElem? h2)
      rw [List.lookup_cons]
      rw [beq_eq_false_iff_ne.mpr ne]
      exact ih j h1 h2 h3.2
theorem pe3_xf {a d C fI : Addr} {oe : Obj} {pn : List (Addr × Obj)} {x : Str} {ns : List (List Nat)} {k : Nat} {n : List Nat} {f : Str} {e : Expr} {te : TE} (c : ExF X.K X.mg x C fI ns) (hz : Zc (.ref C) (some d) oe) (hv : ∃ vs, oe.data = .fields vs) (hn : ns[k]? = some n) (hf : f = S n)
    (he : PE3 (X.suite a ((a, oe) :: pn)) e te) (hb : attributeBase e f X.env (eval e X.env) = eval e X.env := by rfl) : PE3 (X.suite a ((a, oe) :: pn)) (.Attribute e f pos) (eXF C ns k a d te) := fun E tk => by
  obtain ⟨t, p, q⟩ := he E tk
  subst hf
  refine ⟨_, pe_xf c.xf (c.no n (List.mem_of_getElem? hn)) hz hv p hb, fun σ H γ G Q3 Q hs hr h3 kk => ?_⟩
  refine q σ H γ G _ _ hs hr h3 fun v H1 w G1 x1 r1 rv h4 => ?_
  clear h3
  obtain ⟨ew, h4⟩ := h4
  subst ew
  split at h4
  · rename_i C' ns' ws eG
    obtain ⟨e1, e2, h5⟩ := h4
    subst e1 e2
    split at h5
    · rename_i u eu
      rw [nthW_eq] at eu
      obtain ⟨fs, g1, g2, g3, g4, g5⟩ := r1 d _ eG
      obtain ⟨v', l1, l2⟩ := look_rev g2 g3 g4 g5 hn eu
      exact ⟨rep_ref1 rv, rfl, d, fs, v', rfl, g1, l1, kk _ _ _ _ x1 r1 l2 h5⟩
    · exact h5.elim
  · exact h4.elim
end
end L3

end
section
set_option maxHeartbeats 4000000
/-! L3SndS: isinstance of a caught error that has fields. -/
namespace L3
open PySem PySem.W PySem.Spec PySem.Calls PyProof.Rows L2
section
variable {prog : Program} {w : World} {A : Around} {E : Value → Shared → Prop} {s : Shared} {K : PySem.W.Frag} {x D : Addr} {ox : Obj}
/-- its __class__, whatever dict it has -/
theorem cls_of_exc {od : Option Obj} {Q : Option Value → Shared → Prop} (c : ExcC K D) (X : K.In s.heap) (I : InstAt s.heap x ox D od) (h : Q (some (.ref D)) { s with toks := s.toks + 1 }) : wpAny (model prog w) A (getAttr? (.ref x) "__class__") Q E s := by
  have hc : (clsIn K D).isSome = true := by obtain ⟨cd, hc, _⟩ := any_some c.hd; rw [hc]; rfl
  have hf : findObj K D od "__class__" = some (.bind (.builtin "getset_descriptor.__get__") (.builtin "object.__class__")) := by
    cases od with
    | none => exact findObj_dataN hc c.ha c.hn c.ht
    | some o => exact findObj_data hc c.ha c.hn c.ht
  obtain ⟨hp, g, d, t, os⟩ := s
  have T0 := I.type (M := model prog w)
  have TF := looks_find (M := model prog w) X I hf
  have T1 := looks_findIn (M := model prog w) X c.hg
  have T2 := looks_findIn (M := model prog w) X c.hk
  have isE : Looks (model prog w) hp (isInstance (.ref x) (.type "BaseException")) true := T0.andThen (looks_subIn X c.hs)
  have n0 : (Value.builtin "BaseException.__getattribute__" == Value.builtin "object.__getattribute__") = false := by decide +kernel
  have n1 : (onTheHeap (Value.ref D) && Value.builtin "BaseException.__getattribute__" == Value.builtin "object.__getattribute__") = false := by rw [n0]; rfl
  unfold getAttr? getAttrBy? getAttrBy
  refine wpAny_bind (wpAny_mkText (wpAny_bind (wpAny_attempt (wpAny_holding (wpAny_bind (T0.at (wpAny_bind (T1.at ?_))))))))
  show wpAny _ _ (if (onTheHeap (Value.ref D) && Value.builtin "BaseException.__getattribute__" == Value.builtin "object.__getattribute__") = true then _ else _) _ _ _
  rw [n1, if_neg Bool.false_ne_true]
  unfold getAttrByItsOwn hookBefore
  refine wpAny_bind ?_
  rw [if_pos (show onTheHeap (Value.ref D) = true from rfl)]
  refine T2.at (wpAny_bind (wpAny_attempt (wpAny_holding ?_)))
  unfold callGetattribute
  rw [show (false && onTheHeap (Value.builtin "BaseException.__getattribute__")) = false from rfl, if_neg Bool.false_ne_true]
  unfold boundAndCalled
  rw [PySem.F.excAttr_ValueError.ga.bind (.ref x)]
  refine wpAny_bind (wpAny_pure ?_)
  show wpAny _ _ (call (.builtin "BaseException.__getattribute__") [.ref x, .str "__class__" t]) _ _ _
  refine wpAny_call (codeAny_call_builtin PySem.F.excAttr_ValueError.ga.plain PySem.F.entry_bexc_ga ?_)
  refine @check_slot (model prog w) _ _ ⟨hp, g, d, t + 1, os⟩ "BaseException.__getattribute__" "BaseException" "__getattribute__" (.ref x) [.str "__class__" t] [] _ (by decide +kernel) (by decide +kernel) isE (PySem.F.args_bexc_ga (.ref x) (.str "__class__" t)) ?_
  unfold Builtin.«object.__getattribute__»
  refine wpAny_bind (wpAny_of_eq (a := ((Value.ref x : Value), [Value.str "__class__" t])) (by first | rfl | (simp only [slotArgs]; rfl)) ?_)
  refine wpAny_bind (wpAny_pure (wpAny_bind (T0.at (wpAny_bind (TF.at ?_)))))
  show wpAny _ _ (holding [Value.builtin "object.__class__"] (call (.builtin "getset_descriptor.__get__") [.builtin "object.__class__", .ref x, .ref D]) >>= ret) _ _ _
  refine wpAny_bind (wpAny_holding (wpAny_call (class_get (s := ⟨hp, g, d, t + 1, os⟩) (ox := ox) (od := od) X I c.hm (wpAny_pure ?_))))
  show wpAny _ _ (handedOut (.ref D)) _ _ _
  rw [handedOut_of (v := .ref D) rfl]
  first
    | exact wpAny_pure (wpAny_pure h)
    | exact wpAny_pure h
    | exact wpAny_pure (wpAny_bind (wpAny_pure (wpAny_pure h)))
theorem kitx_excX (c : ExcC K D) : KitX K (.ref x) (.ref D) (fun h => ∃ od, InstAt h x ox D od) where
  ty := fun _ _ _ ⟨_, I⟩ => I.type
  it := fun _ _ X _ => by
    obtain ⟨cd, hc, _⟩ := any_some c.hd
    unfold clsIn at hc
    split at hc
    · rename_i ho
      exact fun A' Q' E' s' k q => wpAny_bind (wpAny_loadPart (k _ _ (X _ _ ho)) (wpAny_pure q))
    · cases hc
  ne := (handS_kitx_exc (x := x) (ox := ox) c.hg c.hk c.hs c.hd c.ha c.hn c.ht c.hm).ne
  ca := fun X ⟨_, I⟩ k => cls_of_exc c X I k
theorem call_isEX {X : Cx} {a D : Addr} {d : Addr} {oe : Obj} {pn : List (Addr × Obj)} (C : ExcC X.K D) (hz : Zc (.ref D) (some d) oe) (hf : ∃ vs, oe.data = .fields vs) : CallR (X.suite a ((a, oe) :: pn)) (.builtin "isinstance") (fun xs H Q => (∃ fs, H d = some (.xd fs)) ∧ rIsE X.K D a xs H Q) := by
  intro pins s σ H xs us Q I r h
  obtain ⟨⟨fs, hd⟩, c, cv, b, rfl, hcv, e, q⟩ := h
  cases r with
  | cons rx rr =>
    cases rr with
    | cons rt rr =>
      cases rr
      cases rx
      have ec := hcv _ rt
      subst ec
      obtain ⟨hget, _⟩ := I.pin (a, oe) (List.mem_append.mpr (.inl List.mem_cons_self))
      obtain ⟨vs, hv⟩ := hf
      have hx : ObjOk X.prog X.w H s.heap d (.xd fs) := I.hok d _ hd
      obtain ⟨mA, hns, hr⟩ := hx
      obtain ⟨od, ho, _⟩ := lookIn_ns hns
      have J : InstAt s.heap a oe D (some od) := ⟨hget, hz.1, by unfold notCls; rw [hv] <;> rfl, by rw [hz.2]; exact ho⟩
      exact kia_one (kitx_excX (ox := oe) C) I.kIn ⟨_, J⟩ e (fun z => nomatch z) fun tk => ⟨.bl b, H, I.kept (t' := tk) fun _ _ z => z, rfl, q⟩
/-- isinstance of a caught error with fields -/
theorem b_isEX {X : Cx} {a d D : Addr} {oe : Obj} {pn : List (Addr × Obj)} {c : W} {cv : Value} {b : Bool} (C : ExcC X.K D) (hz : Zc (.ref D) (some d) oe) (hf : ∃ vs, oe.data = .fields vs) (hc : ∀ H v, Rep X.K H c v → ∀ u, RelV v u → u = cv) (hk : kitOne X.K (.ref D) cv = some b) : CallR3 (X.suite a ((a, oe) :: pn)) (.builtin "isinstance") (bIsEX a d c b) := by
  refine ⟨_, call_isEX C hz hf, fun ws vs H G Q3 Q r rv h k => ?_⟩
  simp only [bIsEX] at h
  split at h
  · obtain ⟨rfl, rfl, ⟨C', ns, us, eG⟩, h⟩ := h
    obtain ⟨v, u, rfl, r1, r2⟩ := repl2 rv
    rw [rep_ref1 r1]
    obtain ⟨fs, g1, _⟩ := r d _ eG
    exact ⟨⟨fs, g1⟩, u, cv, b, rfl, hc H u r2, hk, k _ _ _ _ .refl r rbl h⟩
  · exact h.elim
end
end L3
namespace L3
open PySem PySem.Spec PyProof.Rows L2
section
variable {X : Cx}
theorem mt_indexF : MtR X "str.index" (fun x xs H Q => ∃ (a b : Str) (k : Nat) (rest : List Nat), x = .str a ∧ xs = [.str b] ∧ Builtin.Str.occurrences a b 0 a.length 1 = k :: rest ∧ Q (.int (k : Nat)) H) := by
  intro pins s σ H x xs v us Q I rx rs h
  obtain ⟨a, b, k, rest, rfl, rfl, q, w⟩ := h
  obtain ⟨t, rfl⟩ := rx
  cases rs with
  | cons r1 rs =>
    cases rs
    obtain ⟨u, rfl⟩ := r1
    exact PySem.SC.index q ⟨.int (k : Nat), H, I.tok _, ⟨_, rfl⟩, w⟩
theorem m_indexC : MtR3 X "str.index" mIndexC := by
  refine ⟨_, mt_indexF, fun w v ws vs H G Q3 Q r rv rl h k => ?_⟩
  cases w with
  | str l =>
    simp only [mIndexC] at h
    split at h
    · rename_i c
      obtain ⟨u, rfl, e⟩ := repl1 rl
      rw [rep_str1 rv, rep_str1 e]
      obtain ⟨j, h1, h2, h⟩ := h
      have hj := (List.getElem?_eq_some_iff.mp h1).1
      have at_iff : ∀ i : Nat, StrLaws.At (S l) (S [c]) (S l).length i ↔ l[i]? = some c := fun i => by
        have := StrLaws.subAt_one (S l) c i
        rw [S_toList] at this
        exact this
      rcases StrLaws.occ_head (S l) (S [c]) 1 (Nat.le_refl 1) with ⟨_, hn⟩ | ⟨i, r', h0, ha, hn⟩
      · exact absurd ((at_iff j).mpr h1) (hn j)
      · have ei : i = j := by
          have g1 := (at_iff i).mp ha
          have : ¬ i < j := fun z => h2 i z g1
          have : ¬ j < i := fun z => hn j z ((at_iff j).mpr h1)
          omega
        subst ei
        exact ⟨_, _, i, r', rfl, rfl, h0, k _ H _ G .refl r rint h⟩
    · exact h.elim
  | _ => exact h.elim
end
end L3

end
section
/-! L3SndT: f-strings. -/
namespace L3
open PySem PySem.Spec PyProof.Rows L2
section
variable {X : Cx} {e : Expr} {te : TE} {pos : Pos}
theorem pe3_fmt (h : PE3 X e te) : PE3 X (.FormattedValue e (-1) none pos) (eFmt te) := fun E tk => by
  obtain ⟨t, p1, q1⟩ := h E tk
  refine ⟨_, pe_fmt p1, fun σ H γ G Q3 Q hs hr h3 k => ?_⟩
  refine q1 σ H γ G _ _ hs hr h3 fun v H1 w G1 x1 r1 rv h3 => ?_
  cases w with
  | str s => exact .inl ⟨S s, rep_str1 rv, by rw [S_length, sz_eq]; exact h3.1, k _ H1 _ G1 x1 r1 rstr h3.2⟩
  | int i => exact .inr ⟨i, rep_int1 rv, h3.1, by rw [S_decI]; exact k _ H1 _ G1 x1 r1 rstr h3.2⟩
  | _ => exact h3.elim
def PJ3 (X : Cx) (es : List Expr) (ts : List TE) : Prop := ∀ E : EX, TakesE X E → PJ X es (ts.map fun t => canX X.K E t)
theorem pj3_nil : PJ3 X [] [] := fun E tk => .nil
theorem pj3_cons {es : List Expr} {ts : List TE} (h : PE3 X e te) (r : PJ3 X es ts) : PJ3 X (e :: es) (te :: ts) := fun E tk => .cons (h.canX tk) (r E tk)
theorem js_sim {K : Frag} {E : EX} {σ : St} {γ : Fr} : ∀ (ts : List TE) (acc : List Nat) (H : Hp) (G : Gh) (Q3 : List Nat → Gh → Prop) (Q : Str → Hp → Prop), RepS K E.h0 H γ σ → Rel K H G → eJs ts acc γ G (E γ) Q3 →
    (∀ out H' G', Ext K H H' → Rel K H' G' → Q3 out G' → Q (S out) H') → tJs (ts.map fun t => canX K E t) (S acc) σ H Q
  | [], acc, H, G, Q3, Q, hs, hr, h, k => k acc H G .refl hr h
  | t :: ts, acc, H, G, Q3, Q, hs, hr, h, k => by
    refine ⟨γ, G, _, hs, hr, h, fun v1 H1 w1 G1 x1 r1 rv1 h => ?_⟩
    cases w1 with
    | str y =>
      refine ⟨S y, rep_str1 rv1, by rw [S_append, S_length, sz_eq, List.length_append]; exact h.1, ?_⟩
      rw [S_append]
      exact js_sim ts (acc ++ y) H1 G1 _ _ (hs.ext x1) r1 h.2 fun out H2 G2 x2 r2 h => k out H2 G2 (x1.trans x2) r2 h
    | _ => exact h.elim
theorem pe3_fs {v1 v2 : Expr} {rest : List Expr} {ts : List TE} (h : PJ3 X (v1 :: v2 :: rest) ts) : PE3 X (.JoinedStr (v1 :: v2 :: rest) pos) (eFS ts) := fun E tk => by
  refine ⟨_, pe_joined (h E tk), fun σ H γ G Q3 Q hs hr h3 k => ?_⟩
  exact js_sim ts [] H G _ _ hs hr h3 fun out H' G' x r q => k _ H' _ G' x r rstr q
theorem pe3_alt {ta tb : TE} (h1 : PE3 X e ta) (h2 : PE3 X e tb) : PE3 X e (eOrE ta tb) := fun E tk => by
  refine ⟨fun σ H Q => canX X.K E ta σ H Q ∨ canX X.K E tb σ H Q, ⟨fun pins s σ H Q I h => ?_⟩, fun σ H γ G Q3 Q hs hr h3 k => ?_⟩
  · rcases h with h | h
    · exact (h1.canX tk).run pins s σ H Q I h
    · exact (h2.canX tk).run pins s σ H Q I h
  · rcases h3 with h3 | h3
    · exact .inl ⟨γ, G, Q3, hs, hr, h3, k⟩
    · exact .inr ⟨γ, G, Q3, hs, hr, h3, k⟩
end
end L3

end
section
/-! L3SndU: == of nested lists, extend, replace of any text, what wants a token. -/
namespace L3
open PySem PySem.Spec PyProof.Rows L2 CwR
/-! ### == of nested lists -/
mutual
def pk : W → PyData
  | .kl ws => .list (pkL ws)
  | .non => pd .non
  | .bl b => pd (.bl b)
  | .int i => pd (.int i)
  | .str l => pd (.str l)
  | .tup ws => pd (.tup ws)
  | .ref a => pd (.ref a)
  | .ty n => pd (.ty n)
  | .ktp n => pd (.ktp n)
def pkL : List W → List PyData
  | [] => []
  | w :: ws => pk w :: pkL ws
end
theorem pk_flat {n : Nat} {w : W} (h : okD n w = true) : pk w = pd w := by
  cases w with
  | kl ws => exact (okD_kl h).elim
  | _ => simp only [pk]
theorem dpAll_of {K : Frag} {H : Hp} : ∀ (vs : List V) (ts : List W), vs.length = ts.length → (∀ (i : Nat) (v : V) (t : W), vs[i]? = some v → ts[i]? = some t → Dp K H v (pk t)) → DpAll K H vs (pkL ts)
  | [], [], _, _ => by simp only [pkL]; constructor
  | v :: vs, t :: ts, h, k => by
    simp only [pkL]
    exact .cons (k 0 v t rfl rfl) (dpAll_of vs ts (by simpa using h) fun i v' t' h1 h2 => k (i + 1) v' t' (by simpa using h1) (by simpa using h2))
theorem repL_at {K : Frag} {H : Hp} : ∀ {ws : List W} {vs : List V}, RepL K H ws vs → ∀ (i : Nat) (v : V), vs[i]? = some v → ∃ w, ws[i]? = some w ∧ Rep K H w v
  | [], vs, h, i, v, e => by simp only [RepL] at h; subst h; cases i <;> cases e
  | w :: ws, vs, h, i, v, e => by
    simp only [RepL] at h
    obtain ⟨v0, r, rfl, a, b⟩ := h
    cases i with
    | zero => cases e; exact ⟨w, rfl, a⟩
    | succ i => obtain ⟨x, y, z⟩ := repL_at b i v (by simpa using e); exact ⟨x, by simpa using y, z⟩
theorem dp_hv {K : Frag} {H : Hp} {G : Gh} (r : Rel K H G) {n : Nat} {w t : W} (h : HV G n w t) : ∀ v, Rep K H w v → Dp K H v (pk t) := by
  induction h with
  | flat h => intro v rv; rw [pk_flat h]; exact dp_rep _ v _ h rv
  | @lst n a xs ts h hl k ih =>
    intro v rv
    rw [rep_ref1 rv]
    obtain ⟨vs, s1, s2⟩ := r.lst h
    simp only [pk]
    refine .lst (.inl (.inl s1)) (dpAll_of vs ts (by rw [← s2.length]; exact hl) fun i v t h1 h2 => ?_)
    obtain ⟨w, e, rw⟩ := repL_at s2 i v h1
    exact ih i w t e h2 v rw
theorem layL : ∀ (ts : List W) (n : Nat), (∀ t ∈ ts, (pk t).canLay0 = true ∧ (pk t).depth ≤ n) → PyData.canLayAll0 (pkL ts) = true ∧ PyData.depthAll (pkL ts) ≤ n
  | [], n, _ => ⟨by simp only [pkL]; unfold PyData.canLayAll0; rfl, by simp only [pkL]; unfold PyData.depthAll; exact Nat.zero_le _⟩
  | t :: ts, n, h => by
    obtain ⟨a, b⟩ := h t List.mem_cons_self
    obtain ⟨c, d⟩ := layL ts n fun x hx => h x (List.mem_cons_of_mem _ hx)
    simp only [pkL]
    exact ⟨by unfold PyData.canLayAll0; rw [a, c]; rfl, by unfold PyData.depthAll; exact Nat.max_le.mpr ⟨b, d⟩⟩
theorem hv_lay {G : Gh} {n : Nat} {w t : W} (h : HV G n w t) : (pk t).canLay0 = true ∧ (pk t).depth ≤ n := by
  induction h with
  | @flat n w h =>
    rw [pk_flat h]
    exact okD_pd n w h
  | @lst n a xs ts h hl k ih =>
    have : ∀ t ∈ ts, (pk t).canLay0 = true ∧ (pk t).depth ≤ n := by
      intro t ht
      obtain ⟨i, hi, rfl⟩ := List.mem_iff_getElem.mp ht
      exact ih i xs[i] ts[i] (List.getElem?_eq_getElem (by omega)) (List.getElem?_eq_getElem hi)
    obtain ⟨c, d⟩ := layL ts _ this
    simp only [pk]
    exact ⟨by unfold PyData.canLay0; exact c, by unfold PyData.depth; omega⟩
theorem hv_shaped {G : Gh} {n : Nat} {w t : W} (h : HV G n w t) (hn : n ≤ DP) : SeqAt.shaped (pk t) = true := by
  obtain ⟨a, b⟩ := hv_lay h
  unfold SeqAt.shaped
  have : (pk t).depth ≤ 64 := by have : DP = 60 := rfl; omega
  rw [a, Bool.true_and]
  exact decide_eq_true this
theorem neq_flat {n : Nat} {s : W} (h : okD n s = true) (t : W) : neq s t = weq s t := by
  cases s with
  | kl ws => exact (okD_kl h).elim
  | ref a => exact (okD_ref h).elim
  | ty a => exact (okD_ty h).elim
  | ktp a => exact (okD_ktp h).elim
  | _ => simp only [neq]
theorem eqvL_neq : ∀ (ss ts : List W), (∀ s ∈ ss, ∀ t ∈ ts, PyData.eqv (pk s) (pk t) = neq s t) → PyData.eqvAll (pkL ss) (pkL ts) = neqL ss ts
  | [], ts, _ => by cases ts <;> simp [pkL, PyData.eqvAll, neqL]
  | s :: ss, ts, h => by
    cases ts with
    | nil => simp only [pkL, PyData.eqvAll, neqL]
    | cons t ts =>
      simp only [pkL, PyData.eqvAll, neqL]
      rw [h s List.mem_cons_self t List.mem_cons_self, eqvL_neq ss ts fun a ha b hb => h a (List.mem_cons_of_mem _ ha) b (List.mem_cons_of_mem _ hb)]
theorem eqv_neq {G G' : Gh} {n : Nat} {w s : W} (h : HV G n w s) : ∀ {m : Nat} {x t : W}, HV G' m x t → PyData.eqv (pk s) (pk t) = neq s t := by
  induction h with
  | @flat n s h =>
    intro m x t h'
    rw [pk_flat h, neq_flat h]
    cases h' with
    | flat h' => rw [pk_flat h']; exact eqv_weq _ _ _ _ h h'
    | lst _ _ _ =>
      simp only [pk]
      cases s with
      | kl ws => exact (okD_kl h).elim
      | ref a => exact (okD_ref h).elim
      | ty a => exact (okD_ty h).elim
      | ktp a => exact (okD_ktp h).elim
      | _ => simp only [pd, PyData.eqv, weq]
  | @lst n a xs ts h hl k ih =>
    intro m x t h'
    cases h' with
    | @flat _ _ h' =>
      rw [pk_flat h']
      simp only [pk]
      cases x with
      | kl ws => exact (okD_kl h').elim
      | ref a => exact (okD_ref h').elim
      | ty a => exact (okD_ty h').elim
      | ktp a => exact (okD_ktp h').elim
      | _ => simp only [pd, PyData.eqv, neq]
    | @lst m b ys us g gl gk =>
      simp only [pk, PyData.eqv, neq]
      refine eqvL_neq ts us fun s hs t ht => ?_
      obtain ⟨i, hi, rfl⟩ := List.mem_iff_getElem.mp hs
      obtain ⟨j, hj, rfl⟩ := List.mem_iff_getElem.mp ht
      exact ih i xs[i] ts[i] (List.getElem?_eq_getElem (by omega)) (List.getElem?_eq_getElem hi) (gk j ys[j] us[j] (List.getElem?_eq_getElem (by omega)) (List.getElem?_eq_getElem hj))
section
variable {X : Cx}
theorem o_eqN (hu : X.A.units + 64 < cLine) : OpR3 X (compareOp .Eq) rEqN := by
  refine ⟨_, op_eqD hu, fun x y v u H G Q3 Q r rv ru h k => ?_⟩
  obtain ⟨n, m, s, t, hn, hm, h1, h2, q⟩ := h
  refine ⟨pk s, pk t, dp_hv r h1 v rv, dp_hv r h2 u ru, hv_shaped h1 hn, hv_shaped h2 hm, ?_⟩
  rw [eqv_neq h1 h2]
  exact k _ H _ G .refl r rbl q
theorem o_neN (hu : X.A.units + 64 < cLine) : OpR3 X (compareOp .NotEq) rNeN := by
  refine ⟨_, op_neD hu, fun x y v u H G Q3 Q r rv ru h k => ?_⟩
  obtain ⟨n, m, s, t, hn, hm, h1, h2, q⟩ := h
  refine ⟨pk s, pk t, dp_hv r h1 v rv, dp_hv r h2 u ru, hv_shaped h1 hn, hv_shaped h2 hm, ?_⟩
  rw [eqv_neq h1 h2]
  exact k _ H _ G .refl r rbl q
def rNeMl (K : Frag) : L2.R2 := fun x y H Q => ∃ d e, Dp K H x d ∧ Dp K H y e ∧ d.canLay0 = true ∧ e.canLay0 = true ∧ e.depth ≤ 60 ∧ Q (.bl (!PyData.eqv d e)) H
theorem op_neM (hu : X.A.units + 64 < cLine) : OpR X (compareOp .NotEq) (rNeMl X.K) := by
  rintro pins s σ H x y v u Q I rx ry ⟨d, e, h1, h2, c1, c2, hd, q⟩
  obtain ⟨_, a⟩ := Dp.reads I d x v h1 rx
  obtain ⟨_, b⟩ := Dp.reads I e y u h2 ry
  have hm : min d.depth e.depth ≤ e.depth := Nat.min_le_right _ _
  exact SeqAt.compareNe_reads a b c1 c2 (by omega) ⟨.bl _, H, I, rfl, q⟩
theorem o_neM (hu : X.A.units + 64 < cLine) : OpR3 X (compareOp .NotEq) rNeM := by
  refine ⟨_, op_neM hu, fun x y v u H G Q3 Q r rv ru h k => ?_⟩
  obtain ⟨n, m, s, t, hm, h1, h2, q⟩ := h
  obtain ⟨l1, _⟩ := hv_lay h1
  obtain ⟨l2, d2⟩ := hv_lay h2
  refine ⟨pk s, pk t, dp_hv r h1 v rv, dp_hv r h2 u ru, l1, l2, by have : DP = 60 := rfl; omega, ?_⟩
  rw [eqv_neq h1 h2]
  exact k _ H _ G .refl r rbl q
theorem m_extend : MtR3 X "list.extend" mExtend := by
  refine ⟨_, mt_extend, fun w v ws vs H G Q3 Q r rv rl h k => ?_⟩
  cases w with
  | ref a =>
    simp only [mExtend] at h
    split at h
    · rename_i t eq
      split at h
      · rename_i b
        split at h
        · rename_i u eq2
          obtain ⟨z, rfl, e⟩ := repl1 rl
          obtain rfl : z = V.ref b := rep_ref1 e
          obtain ⟨xs, s1, s2⟩ := r.lst eq
          obtain ⟨zs, t1, t2⟩ := r.lst eq2
          rw [rep_ref1 rv]
          have m : Mut (H a) := by rw [s1]; trivial
          refine ⟨a, b, xs, zs, rfl, rfl, s1, t1, by rw [← s2.length, ← t2.length, sz_eq]; exact h.1, ?_⟩
          exact k _ _ _ _ (.write m) (r.write (o := .lst (t ++ u)) m ⟨_, upd_same, (s2.append t2).ext (.write m)⟩) rnon h.2
        · exact h.elim
      · exact h.elim
    · exact h.elim
  | _ => exact h.elim
/-! ### replace -/
theorem rplF_eq {y z : List Nat} (hy : y ≠ []) : ∀ (n : Nat) (l : List Nat), l.length ≤ n → rplF y z n l = StrLaws.replL y z l
  | 0, l, h => by
    cases l with
    | nil => rw [StrLaws.replL_nil]; rfl
    | cons c r => simp at h
  | n + 1, [], _ => by rw [StrLaws.replL_nil]; rfl
  | n + 1, c :: r, h => by
    have hl : 1 ≤ y.length := by cases y with | nil => exact absurd rfl hy | cons d t => simp
    have h' : r.length ≤ n := by simpa using h
    show (bif y.isPrefixOf (c :: r) then z ++ rplF y z n ((c :: r).drop y.length) else c :: rplF y z n r) = _
    by_cases hp : (c :: r).take y.length = y
    · have hb : y.isPrefixOf (c :: r) = true := by
        rw [List.isPrefixOf_iff_prefix]
        exact ⟨(c :: r).drop y.length, by conv => lhs; lhs; rw [← hp]
                                          exact List.take_append_drop _ _⟩
      rw [hb, StrLaws.replL_hit hy hp, rplF_eq hy n _ (by rw [List.length_drop]; simp; omega)]
      rfl
    · have hb : y.isPrefixOf (c :: r) = false := by
        rw [Bool.eq_false_iff]
        intro z
        rw [List.isPrefixOf_iff_prefix] at z
        obtain ⟨t, e⟩ := z
        exact hp (by rw [← e, List.take_left])
      rw [hb, StrLaws.replL_miss hp, rplF_eq hy n r h']
      rfl
theorem replace_any {y : List Nat} (hy : y ≠ []) (s z : List Nat) : Txt.replace (S s) (S y) (S z) = S (rpl y z s) := by
  have h := StrLaws.replace_list (x := S s) (y := S y) (z := S z) (by rw [S_length]; cases y with | nil => exact absurd rfl hy | cons d t => simp)
  unfold rpl
  rw [rplF_eq hy _ _ (Nat.le_refl _)]
  have e : (S s).cps.toList = s := by simp [S]
  have e2 : (S y).cps.toList = y := by simp [S]
  have e3 : (S z).cps.toList = z := by simp [S]
  rw [e, e2, e3] at h
  rw [← h]
  simp [S]
/-! ### behind a token -/
variable {e f o i c value : Expr} {te tf to td ty : TE} {pos pos' apos p p' : Pos} {st : Stmt} {rest a b : List Stmt} {t u v : TS}
theorem PE3T.of (h : PE3 X e te) : PE3T X e te := fun E tk => by
  obtain ⟨u, p, q⟩ := h E tk
  exact ⟨u, PET.of p, q⟩
theorem pe3t_op {op : Operator} {r3 : R2} (ho : OpR3 X (binaryOp op) r3) (ha : PE3T X e te) (hb : PE3T X f tf) : PE3T X (.BinOp e op f pos) (eOp r3 te tf) := fun E tk => by
  obtain ⟨r, h1, h2⟩ := ho
  obtain ⟨t, p1, q1⟩ := ha E tk
  obtain ⟨u, p2, q2⟩ := hb E tk
  refine ⟨_, pet_op h1 p1 p2, fun σ H γ G Q3 Q hs hr h3 k => ?_⟩
  refine q1 σ H γ G _ _ hs hr h3 fun v H1 w G1 x1 r1 rv h3 => ?_
  refine q2 σ H1 γ G1 _ _ (hs.ext x1) r1 h3 fun v2 H2 w2 G2 x2 r2 rv2 h3 => ?_
  exact h2 _ _ _ _ _ _ _ _ r2 (rv.ext x2) rv2 h3 fun v3 H3 w3 G3 x3 => k v3 H3 w3 G3 ((x1.trans x2).trans x3)
theorem pe3t_repA {y z : Str} {yl zl : List Nat} {j k : Nat} {c0 c1 : Pos} (ho : PE3T X o to) (ey : y = S yl := by rfl) (ez : z = S zl := by rfl) (hyz : (y == z) = false := by decide +kernel)
    (hst : starEach [.Constant (.str y) j c0, .Constant (.str z) k c1] X.env = [(false, eval (.Constant (.str y) j c0) X.env), (false, eval (.Constant (.str z) k c1) X.env)] := by rfl)
    (hbase : attributeBase o "replace" X.env (eval o X.env) = eval o X.env := by rfl) (hline : (apos.endLine == pos.line) = true := by rfl) :
    PE3T X (.Call (.Attribute o "replace" apos) [.Constant (.str y) j c0, .Constant (.str z) k c1] [] pos) (eBm "str" mReplaceL to (aCons (eC (.str yl)) (aCons (eC (.str zl)) aNil))) := fun E tk => by
  obtain ⟨t, p, q⟩ := ho E tk
  refine ⟨_, pet_replT p hyz hst hbase hline, fun σ H γ G Q3 Q hs hr h3 k => ?_⟩
  refine q σ H γ G _ _ hs hr h3 fun v H1 w G1 x1 r1 rv h3 => ?_
  simp only [aCons, aNil, eC] at h3
  obtain ⟨h3, h4⟩ := h3
  cases w with
  | str l =>
    simp only [mReplaceL] at h4
    refine ⟨S l, rep_str1 rv, ?_, ?_⟩
    · rw [S_length, ez, S_length]; exact h4.2.1
    · rw [ey, ez, replace_any h4.1]
      exact k _ _ _ _ x1 r1 rstr h4.2.2
  | _ => exact h4.elim
theorem ps3t_ret (h : PE3T X e te) : PS3T X (.Return (some e) pos) (sRet te) := fun E tk => by
  obtain ⟨t, p, q⟩ := h E tk
  refine ⟨_, pst_ret p, fun D D3 σ H γ G he ho hs hr h3 => ?_⟩
  cases E; dsimp only at he; subst he
  exact q σ H γ G _ _ hs hr h3 fun v H' w G' x r rv h => ho.rt v H' w G' x r rv h
theorem ps3t_if {tc : TT} (hc : PT3 X c tc) (ha : PSs3T X a t) (hb : PSs3T X b u) : PS3T X (.If c a b pos) (sIf tc t u) := fun E tk => by
  obtain ⟨t0, p0, q0⟩ := hc E tk
  obtain ⟨t1, p1, q1⟩ := ha E tk
  obtain ⟨t2, p2, q2⟩ := hb E tk
  refine ⟨_, pst_if p0 p1 p2, fun D D3 σ H γ G he ho hs hr h3 => ?_⟩
  have he' := he
  cases E; dsimp only at he; subst he
  refine q0 σ H γ G _ _ hs hr h3 fun b H1 G1 x1 r1 h3 => ?_
  cases b with
  | true => exact iteT (q1 D D3 σ H1 γ G1 he' (ho.ext x1) (hs.ext x1) r1 (by simpa using h3))
  | false => exact iteF (q2 D D3 σ H1 γ G1 he' (ho.ext x1) (hs.ext x1) r1 (by simpa using h3))
theorem pss3t_cons (h1 : PS3T X st t) (h2 : PSs3T X rest u) : PSs3T X (st :: rest) (sSeq t u) := fun E tk => by
  obtain ⟨t1, p1, q1⟩ := h1 E tk
  obtain ⟨t2, p2, q2⟩ := h2 E tk
  refine ⟨_, psst_cons p1 p2, fun D D3 σ H γ G he ho hs hr h3 => ?_⟩
  refine q1 _ { D3 with nx := u D3 } σ H γ G he ⟨fun σ' H' γ' G' x s r h => ?_, ho.rt, ho.bk, ho.ct⟩ hs hr h3
  exact q2 D D3 σ' H' γ' G' he (ho.ext x) s r h
theorem pssB_if {tc : L2.TT} {t u v : L2.TS} (hc : PTB X c tc) (ha : PSsT X a t) (hb : PSsT X b u) (hr : PSsT X rest v) : PSs X (.If c a b pos :: rest) (L2.tSeq (tIfS tc t u) v) := by
  refine ⟨fun pins s σ H D I h => ?_⟩
  refine wpAny_execs_cons (wpAny_If (thn (hc pins s σ H _ I h) fun d s1 ⟨hk, H1, I1, q1⟩ => ?_))
  have go : ∀ {x : List Stmt} {y : L2.TS}, PSsT X x y → y { D with nx := v D } σ H1 → wpAny (model X.prog X.w) X.A (execs x X.env)
      (fun f s' => match f with
        | Flow.next => wpAny (model X.prog X.w) X.A (execs rest X.env) (SP X pins D) X.xe s'
        | f => SP X pins D f s') X.xe s1 := fun hx q1 =>
    wpAny_mono (PySem.wpAny_toks (hx pins s1 σ H1 { D with nx := v D } hk I1 q1)) (fun f s2 q => by
      obtain ⟨hk2, q⟩ := q
      cases f with
      | next =>
        obtain ⟨σ', H', I', q⟩ := q
        exact hr pins s2 σ' H' D (Nat.le_trans hk hk2) I' q
      | ret v => exact q
      | brk => exact q
      | cont => exact q) fun _ _ x => x.2
  cases d with
  | true =>
    show wpAny (model X.prog X.w) X.A (execs a X.env) _ X.xe s1
    exact go ha q1
  | false =>
    show wpAny (model X.prog X.w) X.A (execs b X.env) _ X.xe s1
    exact go hb q1
theorem pss3_ifB {tc : TT} (hc : PTB3 X c tc) (ha : PSs3T X a t) (hb : PSs3T X b u) (hv : PSs3T X rest v) : PSs3 X (.If c a b pos :: rest) (sSeq (sIf tc t u) v) := fun E tk => by
  obtain ⟨t0, p0, q0⟩ := hc E tk
  obtain ⟨t1, p1, q1⟩ := ha E tk
  obtain ⟨t2, p2, q2⟩ := hb E tk
  obtain ⟨t3, p3, q3⟩ := hv E tk
  refine ⟨_, pssB_if p0 p1 p2 p3, fun D D3 σ H γ G he ho hs hr h3 => ?_⟩
  have he' := he
  cases E; dsimp only at he; subst he
  refine q0 σ H γ G _ _ hs hr h3 fun b H1 G1 x1 r1 h3 => ?_
  have ho' := ho.ext x1
  cases b with
  | true => exact iteT (q1 _ { D3 with nx := v D3 } σ H1 γ G1 he' ⟨fun σ' H' γ' G' x s r h => q3 D D3 σ' H' γ' G' he' (ho'.ext x) s r h, ho'.rt, ho'.bk, ho'.ct⟩ (hs.ext x1) r1 (by simpa using h3))
  | false => exact iteF (q2 _ { D3 with nx := v D3 } σ H1 γ G1 he' ⟨fun σ' H' γ' G' x s r h => q3 D D3 σ' H' γ' G' he' (ho'.ext x) s r h, ho'.rt, ho'.bk, ho'.ct⟩ (hs.ext x1) r1 (by simpa using h3))
theorem pst_putA {td ty tv : L2.TE} (hu : X.A.units + 1 < cLine) (hv : PET X value tv) (ho : PE X o td) (hi : PE X i ty) (hs : swapsWith value (some (.Subscript o i pos')) pos.line X.env = pure false) :
    PST X (.Assign [.Subscript o i pos'] value pos) (fun D σ H => tv σ H fun v H1 => td σ H1 fun x H2 => ty σ H2 fun y H3 => (∃ a H4, x = .ref a ∧ DPut H3 a y v H4 ∧ D.nx σ H4) ∨ L2.rSetL x y v H3 (D.nx σ)) := by
  intro pins s σ H D ht I h
  refine wpAny_Assign_Subscript (thn (hv pins s σ H _ ht I h) fun r s1 ⟨v, H1, I1, rv, q1⟩ => thn (ho.run pins s1 σ H1 _ I1 q1) fun u s2 ⟨x, H2, I2, rx, q2⟩ => thn (hi.run pins s2 σ H2 _ I2 q2) fun iv s3 ⟨y, H3, I3, ry, q3⟩ => ?_) hs
  rcases q3 with ⟨a, H4, ex, g, q3⟩ | q3
  · subst ex
    obtain rfl : u = Value.ref a := rx
    exact d_setItem hu I3 g ry rv fun s4 I4 => ⟨σ, H4, I4, q3⟩
  · exact thn (set_list pins s3 σ H3 x y v u iv r _ I3 rx ry rv q3) fun _ s4 ⟨H4, I4, q4⟩ => ⟨σ, H4, I4, q4⟩
theorem ps3t_putA {tv : TE} (hu : X.A.units + 1 < cLine) (hv : PE3T X value tv) (ho : PE3 X o td) (hi : PE3 X i ty) (hs : swapsWith value (some (.Subscript o i pos')) pos.line X.env = pure false := by rfl) :
    PS3T X (.Assign [.Subscript o i pos'] value pos) (sPutA tv td ty) := fun E tk => by
  obtain ⟨t, p1, q1⟩ := hv E tk
  obtain ⟨u, p2, q2⟩ := ho E tk
  obtain ⟨z, p3, q3⟩ := hi E tk
  refine ⟨_, pst_putA hu p1 p2 p3 hs, fun D D3 σ H γ G hE oe hs hr h3 => ?_⟩
  cases E; dsimp only at hE; subst hE
  refine q1 σ H γ G _ _ hs hr h3 fun v H1 w G1 x1 r1 rv h3 => ?_
  refine q2 σ H1 γ G1 _ _ (hs.ext x1) r1 h3 fun v2 H2 w2 G2 x2 r2 rv2 h3 => ?_
  refine q3 σ H2 γ G2 _ _ (hs.ext (x1.trans x2)) r2 h3 fun v3 H3 w3 G3 x3 r3 rv3 h3 => ?_
  have rv' := rv.ext (x2.trans x3)
  have y := (x1.trans x2).trans x3
  cases w2 with
  | ref a =>
    rw [rep_ref1 rv2]
    simp only at h3
    split at h3
    · rename_i ws eq
      cases w3 with
      | int j =>
        obtain ⟨xs, s1, s2⟩ := r3.lst eq
        have m : Mut (H3 a) := by rw [s1]; trivial
        simp only at h3
        cases e : ixn ws.length j with
        | none => rw [e] at h3; exact h3.elim
        | some n =>
          rw [e] at h3
          refine .inr ⟨a, xs, j, n, rfl, rep_int1 rv3, s1, by rw [ixn_eq, ← s2.length]; exact e, ?_⟩
          exact oe.nx σ _ γ _ (y.trans (.write m)) (hs.ext (y.trans (.write m))) (r3.write (o := .lst (ws.set n w)) m ⟨_, upd_same, (s2.set n rv').ext (.write m)⟩) h3
      | _ => exact h3.elim
    · rename_i kvs eq
      obtain ⟨hk, hz, h3⟩ := h3
      obtain ⟨ks, s1, s2⟩ := r3 a _ eq
      have m : Mut (H3 a) := by rw [s1]; trivial
      rw [key_rep rv3 hk]
      refine .inl ⟨a, _, rfl, DPut.k s1 (by rw [← s2.length, sz_eq]; exact hz), ?_⟩
      exact oe.nx σ _ γ _ (y.trans (.write m)) (hs.ext (y.trans (.write m))) (r3.write (o := .dct (putD kvs w3 w)) m ⟨_, upd_same, (put_rep hk rv' s2).ext (.write m)⟩) h3
    · rename_i kvs eq
      obtain ⟨hk, hz, h3⟩ := h3
      obtain ⟨ks, s1, s2⟩ := r3 a _ eq
      have m : Mut (H3 a) := by rw [s1]; trivial
      obtain ⟨b, rfl, hb⟩ := keyT_rep rv3 hk
      refine .inl ⟨a, _, rfl, DPut.t s1 hb (by rw [← s2.length, sz_eq]; exact hz), ?_⟩
      exact oe.nx σ _ γ _ (y.trans (.write m)) (hs.ext (y.trans (.write m))) (r3.write (o := .dtt (putD kvs w3 w)) m ⟨_, upd_same, (put_repG (keq_tk hk) (tk_keys hk) rv' s2).ext (.write m)⟩) h3
    · exact h3.elim
  | _ => exact h3.elim
end
/-! ### two signs in a text -/
theorem twoIn_iff {c d : Nat} : ∀ {s : List Nat}, twoIn c d s = true ↔ ∃ i, s[i]? = some c ∧ s[i + 1]? = some d
  | [] => ⟨(fun h => nomatch h), fun ⟨i, h, _⟩ => by cases h⟩
  | a :: r => by
    have ih := twoIn_iff (c := c) (d := d) (s := r)
    show ((decide (a = c) && decide (r.head? = some d)) || twoIn c d r) = true ↔ _
    rw [Bool.or_eq_true, Bool.and_eq_true, decide_eq_true_iff, decide_eq_true_iff, ih]
    constructor
    · rintro (⟨rfl, h⟩ | ⟨i, h1, h2⟩)
      · exact ⟨0, rfl, by rw [List.head?_eq_getElem?] at h; exact h⟩
      · exact ⟨i + 1, h1, h2⟩
    · rintro ⟨i, h1, h2⟩
      cases i with
      | zero => exact .inl ⟨Option.some.inj h1, by rw [List.head?_eq_getElem?]; exact h2⟩
      | succ i => exact .inr ⟨i, h1, h2⟩
theorem found_two {c d : Nat} {s : List Nat} : (!(Builtin.Str.occurrences (S s) (S [c, d]) 0 (S s).length 1).isEmpty) = twoIn c d s := by
  rw [Bool.eq_iff_iff, PySem.StrLaws.found_iff, twoIn_iff]
  have e1 : (S s).cps.toList = s := S_toList _
  have l1 : (S s).length = s.length := by show (S s).cps.size = _; rw [← Array.length_toList, e1]
  have l2 : (S [c, d]).length = 2 := by show (S [c, d]).cps.size = _; rw [← Array.length_toList, S_toList]; rfl
  rw [l1, l2]
  have key : ∀ i, Builtin.Str.subAt (S s) (S [c, d]) i = true ↔ (s.drop i).take 2 = [c, d] := fun i => by
    show ((S s).cps.extract i (i + (S [c, d]).length) == (S [c, d]).cps) = true ↔ _
    rw [l2, beq_iff_eq]
    constructor
    · intro h
      have := congrArg Array.toList h
      rw [Array.toList_extract, e1, S_toList] at this
      simpa [List.extract] using this
    · intro h
      apply Array.ext'
      rw [Array.toList_extract, e1, S_toList]
      simpa [List.extract] using h
  constructor
  · rintro ⟨i, hi, h⟩
    rw [key] at h
    have h0 := congrArg (fun l => l[0]?) h
    have h1 := congrArg (fun l => l[1]?) h
    simp [List.getElem?_take, List.getElem?_drop] at h0 h1
    exact ⟨i, h0, h1⟩
  · rintro ⟨i, h0, h1⟩
    obtain ⟨q0, rfl⟩ := List.getElem?_eq_some_iff.mp h0
    obtain ⟨q1, rfl⟩ := List.getElem?_eq_some_iff.mp h1
    refine ⟨i, by omega, (key i).mpr ?_⟩
    rw [List.drop_eq_getElem_cons q0, List.drop_eq_getElem_cons q1]
    rfl
section
variable {X : Cx}
theorem o_inS2 : OpR3 X (compareOp .In) rInS2 := by
  refine ⟨_, op_in_str, fun x y v u H G Q3 Q r rv ru h k => ?_⟩
  unfold rInS2 at h
  split at h
  · split at h
    · rename_i c d _ s
      rw [rep_str1 rv, rep_str1 ru]
      refine ⟨S [c, d], S s, rfl, rfl, ?_⟩
      rw [found_two]
      exact k _ H _ G .refl r rbl h
    · exact h.elim
  · exact h.elim
end
/-! ### l.index -/
theorem pdL_get : ∀ (ws : List W) (k : Nat), (pdL ws)[k]? = (ws[k]?).map pd
  | [], k => by simp [pdL]
  | w :: ws, 0 => by simp [pdL]
  | w :: ws, k + 1 => by simp only [pdL, List.getElem?_cons_succ]; exact pdL_get ws k
section
variable {X : Cx}
theorem m_indexL (hu : X.A.units + 65 < cLine) : MtR3 X "list.index" mIndexL := by
  refine ⟨_, mt_indexD hu, fun w v ws vs H G Q3 Q r rv rl h k => ?_⟩
  unfold mIndexL at h
  split at h
  · split at h
    · rename_i a _ l el
      split at h
      · rename_i y
        obtain ⟨oy, ol, j, ⟨z, hz, ez⟩, hno, q⟩ := h
        obtain ⟨u, rfl, e⟩ := repl1 rl
        obtain ⟨xs, s1, s2⟩ := r.lst el
        rw [rep_ref1 rv]
        have mem : ∀ {i : Nat} {x : W}, l[i]? = some x → okD DP x = true := fun hx => List.all_eq_true.mp ol _ (List.mem_of_getElem? hx)
        refine ⟨a, u, pd y, pdL l, j, pd z, rfl, rfl, .lst (.inl (.inl s1)) (dp_repL l xs _ ol s2), dp_rep y u _ oy e, shaped_list ol, shaped_pd oy, by rw [pdL_get, hz]; rfl, by rw [eqv_weq z y _ _ (mem hz) oy]; exact ez, fun m z' hm hz' => ?_, k _ _ _ _ .refl r rint q⟩
        rw [pdL_get] at hz'
        cases hx : l[m]? with
        | none => rw [hx] at hz'; cases hz'
        | some x =>
          rw [hx] at hz'
          cases hz'
          rw [eqv_weq x y _ _ (mem hx) oy]
          exact hno m x hm hx
      · exact h.elim
    · exact h.elim
  · exact h.elim
end
end L3

end
section
/-! L3SndV: several except clauses, each with or without a name. -/
namespace L3
open PySem PySem.Spec PyProof.Rows L2
/-- one clause: its class, the slot of its name, its suite -/
abbrev Cl := Value × Option Nat × (Addr → Value → Option Addr → L2.TS)
/-- behind a suite the name is gone -/
def delE (i : Nat) (D : L2.Ends) : L2.Ends := { nx := fun σ' H' => D.nx (σ'.set i none) H', rt := D.rt, bk := fun σ' H' => D.bk (σ'.set i none) H', ct := fun σ' H' => D.ct (σ'.set i none) H' }
def wCls (K : PySem.W.Frag) (Wout : WX) (D : L2.Ends) : List Cl → WX
  | [] => Wout
  | (c, o, ts) :: r => fun cls d σ H => ∃ b, PySem.W.exmOne K cls c = some b ∧ (b = true → ∀ a, H a = none → (match o with | none => ts a cls d D σ H | some i => ts a cls d (delE i D) (σ.set i (some (.ref a))) H)) ∧ (b = false → wCls K Wout D r cls d σ H)
inductive ClsOk (X : Cx) : List ExceptHandler → List Cl → Prop
  | nil : ClsOk X [] []
  | bare {x : Str} {c : Value} {ts : Addr → Value → Option Addr → L2.TS} {b₀ : Stmt} {suite : List Stmt} {np pos' : Pos} {hds : List ExceptHandler} {l : List Cl} (hc : Names X x c)
      (hsu : ∀ (a : Addr) (oe : Obj) (cls : Value) (d : Option Addr) (pn : List (Addr × Obj)), Zc cls d oe → (∃ vs, oe.data = .fields vs) → PSs (X.suite a ((a, oe) :: pn)) (b₀ :: suite) (ts a cls d)) (r : ClsOk X hds l) :
      ClsOk X (.ExceptHandler (some (.Name x np)) none (b₀ :: suite) pos' :: hds) ((c, none, ts) :: l)
  | named {x n : Str} {c : Value} {i : Nat} {ts : Addr → Value → Option Addr → L2.TS} {b₀ : Stmt} {suite : List Stmt} {np pos' : Pos} {hds : List ExceptHandler} {l : List Cl} (hc : Names X x c) (hN : X.N.Nodup) (hi : X.N[i]? = some n) (hln : X.env.kindOf n = some .local)
      (hsu : ∀ (a : Addr) (oe : Obj) (cls : Value) (d : Option Addr) (pn : List (Addr × Obj)), Zc cls d oe → (∃ vs, oe.data = .fields vs) → PSs (X.suite a ((a, oe) :: pn)) (b₀ :: suite) (ts a cls d)) (r : ClsOk X hds l) :
      ClsOk X (.ExceptHandler (some (.Name x np)) (some n) (b₀ :: suite) pos' :: hds) ((c, some i, ts) :: l)
section
variable {X : Cx} {body : List Stmt} {h₀ : ExceptHandler} {hds : List ExceptHandler} {l : List Cl} {pos : Pos} {tb : WX → L2.TS} {Wout : WX}
theorem ps_try_cls (hs : X.stack = X.env :: X.outer) (hf : X.env.frame = some X.env.locals) (tk : L2.Takes X Wout)
    (hb : ∀ (W : WX) (pn : List (Addr × Obj)) (xe : Value → Shared → Prop), L2.Takes (X.tr pn xe) W → PassesOwn (model X.prog X.w) X.A X.env xe → PSs (X.tr pn xe) body (tb W))
    (hh : ClsOk X (h₀ :: hds) l) : PS X (.Try body (h₀ :: hds) [] [] pos) (fun D σ H => tb (wCls X.K Wout D l) D σ H) := by
  refine ⟨fun pins s σ H D I h => ?_⟩
  have ok := I.ok
  have hfr : X.A.frames = some (X.env :: X.outer) := by rw [ok.frames, hs]
  refine wpAny_Try_except ?_
  refine wpAny_mono ((hb (wCls X.K Wout D l) (X.pn ++ pins) (fun e s₁ => wpAny (model X.prog X.w) X.A (noteFrame e X.env) (fun _ s₂ => wpAny (model X.prog X.w) X.A (setFlight e none) (fun _ s₃ =>
    wpAny (model X.prog X.w) X.A (handleBy e X.env (h₀ :: hds)) (SP X pins D) X.xe s₃) X.xe s₂) X.xe s₁) (fun u s' xx => ?_) PassesOwn.looking).run [] s σ H D (I.toTry _) h) (fun f s1 hsp => ?_) (fun e s1 he => he)
  · obtain ⟨a, B, sI, pins', σ', H', cls, d, rfl, J', nb, up, sky, na, os, ag, w⟩ := xx
    have J : Inv X pins σ' H' sI := J'.ofTry ok
    have sky' : Sky B (X.env :: X.outer) a (Zc cls d) X.env.locals s'.heap := by rw [← hs]; exact sky
    show wpAny (model X.prog X.w) X.A (noteFrame (.ref a) X.env) _ _ _
    refine Sky.land Zc.steady hfr hf sky' fun h3 fl3 up3 => ?_
    have J3 : Inv X pins σ' H' { s' with heap := h3 } := J.landed nb fl3.1 (up.trans up3) os ag
    obtain ⟨oe3, vs3, he3, hz3, hd3⟩ := fl3.there
    have nfr : a ∉ frs (X.env :: X.outer) := fun hm => by
      obtain ⟨_, o', e', hnf⟩ := fl3.2.2.1.mem hm
      rw [he3] at e'; cases e'
      exact hnf _ hd3
    have nL : a ≠ X.env.locals := fun z => nfr (List.mem_filterMap.mpr ⟨X.env, List.mem_cons_self, by rw [hf, z]⟩)
    have nF : a ∉ X.fs := fun hm => by
      obtain ⟨e, he, q⟩ := List.mem_filterMap.mp hm
      exact nfr (List.mem_filterMap.mpr ⟨e, List.mem_cons_of_mem _ he, q⟩)
    have S3 := J3.suite he3 hd3 na nL nF
    have LT : PySem.W.Looks (model X.prog X.w) h3 (typeOf (.ref a)) cls := fun A Q E s k q => wpAny_typeOf_ref (k _ _ he3) (by rw [hz3.1]; exact q)
    -- the name of a class
    have test : ∀ {x : Str} {c : Value} {np : Pos} {Q : Value → Shared → Prop} {E : Value → Shared → Prop}, Names X x c → Q c { s' with heap := h3 } → wpAny (model X.prog X.w) (X.A.mark (some (.ref a))) (eval (.Name x np) X.env) Q E { s' with heap := h3 } := fun {x c np Q E} hc q => by
      obtain ⟨hg, hdbg, hm | ⟨hm, hv, hnn⟩⟩ := hc
      · exact ld_glob (X := X.suite a ((a, oe3) :: (X.pn ++ pins))) S3 hg hm q hdbg
      · exact ld_blt (X := X.suite a ((a, oe3) :: (X.pn ++ pins))) S3 hg hm hv q hnn hdbg
    have go : ∀ {hds' : List ExceptHandler} {l' : List Cl}, ClsOk X hds' l' → wCls X.K Wout D l' cls d σ' H' → wpAny (model X.prog X.w) X.A (handleBy (.ref a) X.env hds') (SP X pins D) X.xe { s' with heap := h3 } := by
      intro hds' l' hk
      induction hk with
      | nil =>
        intro w
        refine wpAny_handleBy_nil ?_
        obtain ⟨k1, k2, k3, oe, vs, T, oT, ts', he, hz, hd, h1, hr⟩ := id fl3
        unfold PySem.passOn
        refine wpAny_bind (wpAny_field he hd h1 ?_)
        rw [if_neg (show ¬ ((Value.ref T == Value.none) = true) from by simp)]
        have fin : wpAny (model X.prog X.w) X.A (setFlight (.ref a) X.env.frame) (fun _ s4 => wpAny (model X.prog X.w) X.A (throw (.ref a) : Sem Flow) (SP X pins D) X.xe s4) X.xe { s' with heap := h3 } := by
          rw [hf]
          refine HandSPX.setFlight_upZ fl3 fun h4 hh4 up4 => wpAny_throw (tk _ _ ?_)
          exact ⟨a, B, sI, pins, σ', H', cls, d, rfl, J, nb, (up.trans up3).trans up4, .inr (.inr (by rw [hs]; exact hh4)), na, os, ag, w⟩
        first
          | exact wpAny_bind (wpAny_pure (wpAny_bind fin))
          | exact wpAny_bind fin
      | bare hc hsu r ih =>
        intro w
        obtain ⟨b, hb1, hyes, hno⟩ := w
        refine wpAny_handleBy_cons (codeAny_handlers_test ?_) (by intro q; cases q)
        refine test hc ((PySem.W.exm_one (M := model X.prog X.w) (J3.kIn) LT hb1).here ?_)
        cases b with
        | true =>
          refine codeAny_handlers_suite ?_
          refine HandSPX.lands_againZ fl3 fun h4 fl4 up4 => ?_
          have J4 : Inv X pins σ' H' { s' with heap := h4 } := J.landed nb fl4.1 ((up.trans up3).trans up4) os ag
          obtain ⟨oe4, vs4, he4, hz4, hd4⟩ := fl4.there
          refine wpAny_mono ((hsu a oe4 cls d (X.pn ++ pins) hz4 ⟨_, hd4⟩).run [] _ _ H' _ (J4.suite he4 hd4 na nL nF) (hyes rfl a na)) (fun f s6 hsp => ?_) (fun _ _ z => False.elim z)
          cases f with
          | next => obtain ⟨σ6, H6, S6, q6⟩ := hsp; exact ⟨_, _, S6.unsuite ok, q6⟩
          | brk => obtain ⟨σ6, H6, S6, q6⟩ := hsp; exact ⟨_, _, S6.unsuite ok, q6⟩
          | cont => obtain ⟨σ6, H6, S6, q6⟩ := hsp; exact ⟨_, _, S6.unsuite ok, q6⟩
          | ret u => obtain ⟨v6, σ6, H6, S6, r6, q6⟩ := hsp; exact ⟨_, _, _, S6.unsuite ok, r6, q6⟩
        | false => exact ih (hno rfl)
      | @named x n c i ts b₀ suite np pos' hds2 l2 hc hN hi hln hsu r ih =>
        intro w
        obtain ⟨b, hb1, hyes, hno⟩ := w
        refine wpAny_handleBy_cons (codeAny_handlers_test ?_) (by intro q; cases q)
        refine test hc ((PySem.W.exm_one (M := model X.prog X.w) (J3.kIn) LT hb1).here ?_)
        cases b with
        | true =>
          refine codeAny_handlers_suite_as ?_
          refine HandSPX.lands_againZ fl3 fun h4 fl4 up4 => ?_
          have J4 : Inv X pins σ' H' { s' with heap := h4 } := J.landed nb fl4.1 ((up.trans up3).trans up4) os ag
          obtain ⟨oe4, vs4, he4, hz4, hd4⟩ := fl4.there
          have S4 := J4.suite he4 hd4 na nL nF
          have hloc : Loc X.env.scope n := .inl hln
          refine store_ok (X := X.suite a ((a, oe4) :: (X.pn ++ pins))) (v := .ref a) S4 hN hi hloc rfl (fun s5 S5 => ?_) (.inr hln)
          refine wpAny_mono ((hsu a oe4 cls d (X.pn ++ pins) hz4 ⟨_, hd4⟩).run [] s5 _ H' _ S5 (hyes rfl a na)) (fun f s6 hsp => ?_) (fun _ _ z => False.elim z)
          have end_ : ∀ {σ6 : L2.St} {H6 : Hp} {Q : Shared → Prop}, Inv (X.suite a ((a, oe4) :: (X.pn ++ pins))) [] σ6 H6 s6 → (∀ s7, Inv X pins (σ6.set i none) H6 s7 → Q s7) →
              wpAny (model X.prog X.w) X.A (do bindName X.env n .none; unbindBehindTheSuite X.env n pos') (fun _ s7 => Q s7) X.xe s6 := fun {σ6 H6 Q} S6 hq => gone_ok (S6.unsuite ok) hN hi hln hq
          cases f with
          | next => obtain ⟨σ6, H6, S6, q6⟩ := hsp; exact end_ S6 fun s7 J7 => ⟨_, _, J7, q6⟩
          | brk => obtain ⟨σ6, H6, S6, q6⟩ := hsp; exact end_ S6 fun s7 J7 => ⟨_, _, J7, q6⟩
          | cont => obtain ⟨σ6, H6, S6, q6⟩ := hsp; exact end_ S6 fun s7 J7 => ⟨_, _, J7, q6⟩
          | ret u => obtain ⟨v6, σ6, H6, S6, r6, q6⟩ := hsp; exact end_ S6 fun s7 J7 => ⟨_, _, _, J7, r6, q6⟩
        | false => exact ih (hno rfl)
    exact go hh w
  · cases f with
    | next => obtain ⟨σ', H', J', q⟩ := hsp; exact wpAny_execs_nil ⟨σ', H', J'.ofTry ok, q⟩
    | brk => obtain ⟨σ', H', J', q⟩ := hsp; exact ⟨σ', H', J'.ofTry ok, q⟩
    | cont => obtain ⟨σ', H', J', q⟩ := hsp; exact ⟨σ', H', J'.ofTry ok, q⟩
    | ret u => obtain ⟨v, σ', H', J', r, q⟩ := hsp; exact ⟨v, σ', H', J'.ofTry ok, r, q⟩
end
inductive Cls3 (X : Cx) : List ExceptHandler → List (Nat × Option Nat × (Nat → TS)) → Prop
  | nil : Cls3 X [] []
  | bare {x : Str} {C : Addr} {th : Nat → TS} {b₀ : Stmt} {suite : List Stmt} {np pos' : Pos} {hds : List ExceptHandler} {l : List (Nat × Option Nat × (Nat → TS))} (mgC : X.mg x = some (.ref C)) (hg : Gl X x) (hdb : (x == ("__debug__" : Str)) = false)
      (hh : ∀ (a : Addr) (oe : Obj) (pn : List (Addr × Obj)), Zc (.ref C) none oe → (∃ vs, oe.data = .fields vs) → HotM (X.suite a ((a, oe) :: pn)) → PSs3 (X.suite a ((a, oe) :: pn)) (b₀ :: suite) (th a)) (r : Cls3 X hds l) :
      Cls3 X (.ExceptHandler (some (.Name x np)) none (b₀ :: suite) pos' :: hds) ((C, none, th) :: l)
  | named {x n : Str} {C : Addr} {i : Nat} {th : Nat → TS} {b₀ : Stmt} {suite : List Stmt} {np pos' : Pos} {hds : List ExceptHandler} {l : List (Nat × Option Nat × (Nat → TS))} (mgC : X.mg x = some (.ref C)) (hg : Gl X x) (hdb : (x == ("__debug__" : Str)) = false) (hN : X.N.Nodup) (hi : X.N[i]? = some n) (hln : X.env.kindOf n = some .local)
      (hh : ∀ (a : Addr) (oe : Obj) (pn : List (Addr × Obj)), Zc (.ref C) none oe → (∃ vs, oe.data = .fields vs) → HotM (X.suite a ((a, oe) :: pn)) → PSs3 (X.suite a ((a, oe) :: pn)) (b₀ :: suite) (th a)) (r : Cls3 X hds l) :
      Cls3 X (.ExceptHandler (some (.Name x np)) (some n) (b₀ :: suite) pos' :: hds) ((C, some i, th) :: l)
/-- the clauses below -/
def clLow (X : Cx) : Nat × Option Nat × (Nat → TS) → Cl := fun (C, o, th) => (.ref C, o, fun a cls d D σ H => cls = .ref C ∧ d = none ∧ ∃ Z0 γ G D3, EndsOk X.K Z0 H D3 D ∧ RepS X.K Z0 H γ σ ∧ Rel X.K H G ∧ th a { D3 with ex := fun _ => X0 } γ G)
theorem cls_ok {X : Cx} {hds : List ExceptHandler} {l : List (Nat × Option Nat × (Nat → TS))} (h : Cls3 X hds l) : ClsOk X hds (l.map (clLow X)) := by
  induction h with
  | nil => exact .nil
  | @bare x C th b₀ suite np pos' hds l mgC hg hdb hh r ih =>
    refine .bare ⟨hg, hdb, .inl mgC⟩ (fun a oe cls d pn hz hv => ⟨fun pins s σ H D I hw => ?_⟩) ih
    obtain ⟨rfl, rfl, Z0, γ, G, D3, hends, hr1, hr2, h3⟩ := hw
    obtain ⟨t, p, q⟩ := hh a oe pn hz hv trivial ⟨fun _ => X0, Z0⟩ (takes0E Z0)
    exact p.run pins s σ H D I (q D { D3 with ex := fun _ => X0 } σ H γ G rfl ⟨hends.nx, hends.rt, hends.bk, hends.ct⟩ hr1 hr2 h3)
  | @named x n C i th b₀ suite np pos' hds l mgC hg hdb hN hi hln hh r ih =>
    refine .named ⟨hg, hdb, .inl mgC⟩ hN hi hln (fun a oe cls d pn hz hv => ⟨fun pins s σ H D I hw => ?_⟩) ih
    obtain ⟨rfl, rfl, Z0, γ, G, D3, hends, hr1, hr2, h3⟩ := hw
    obtain ⟨t, p, q⟩ := hh a oe pn hz hv trivial ⟨fun _ => X0, Z0⟩ (takes0E Z0)
    exact p.run pins s σ H D I (q D { D3 with ex := fun _ => X0 } σ H γ G rfl ⟨hends.nx, hends.rt, hends.bk, hends.ct⟩ hr1 hr2 h3)
theorem wcls_of {X : Cx} {Wout : WX} {D : L2.Ends} {D3 : Ends} {Z0 : Hp} {c : Addr} {σ' : L2.St} {H' : Hp} {γ' : Fr} {G' : Gh} (ho : EndsOk X.K Z0 H' D3 D) (hr : RepS X.K Z0 H' γ' σ') (hG : Rel X.K H' G') : ∀ (l : List (Nat × Option Nat × (Nat → TS))),
    (∀ C ∈ l.map (·.1), PySem.W.exmOne X.K (.ref c) (.ref C) = some (decide (c = C))) → clsX D3 l c γ' G' → wCls X.K Wout D (l.map (clLow X)) (.ref c) none σ' H'
  | [], _, h => h.elim
  | (C, o, th) :: l, hx, h => by
    refine ⟨decide (c = C), hx C (by simp), fun hb a ha => ?_, fun hb => ?_⟩
    · have e := of_decide_eq_true hb
      subst e
      simp only [clsX, if_true] at h
      cases o with
      | none => exact ⟨rfl, rfl, Z0, γ', G', D3, ho, hr, hG, h a (hG.free ha)⟩
      | some i => exact ⟨rfl, rfl, Z0, put γ' i (.ref a), G', { nx := fun γ2 G2 => D3.nx (del γ2 i) G2, rt := D3.rt, bk := fun γ2 G2 => D3.bk (del γ2 i) G2, ct := fun γ2 G2 => D3.ct (del γ2 i) G2, ex := fun _ => X0 },
          ⟨fun σ2 H2 γ2 G2 y r q z => ho.nx _ H2 _ G2 y r.del q z, ho.rt, fun σ2 H2 γ2 G2 y r q z => ho.bk _ H2 _ G2 y r.del q z, fun σ2 H2 γ2 G2 y r q z => ho.ct _ H2 _ G2 y r.del q z⟩, RepS.put hr rref, hG, h a (hG.free ha)⟩
    · have e := of_decide_eq_false hb
      simp only [clsX, if_neg e] at h
      exact wcls_of ho hr hG l (fun C hC => hx C (by simp only [List.map_cons, List.mem_cons]; exact .inr hC)) h
section
variable {X : Cx} {pos : Pos}
theorem clsX_mem {D : Ends} {c : Nat} {γ : Fr} {G : Gh} : ∀ {l : List (Nat × Option Nat × (Nat → TS))}, clsX D l c γ G → c ∈ l.map (·.1)
  | [], h => h.elim
  | (C, o, th) :: l, h => by
    by_cases e : c = C
    · simp [e]
    · simp only [clsX, if_neg e] at h
      simp only [List.map_cons, List.mem_cons]
      exact .inr (clsX_mem h)
theorem ps3_tryMany {body : List Stmt} {h₀ : ExceptHandler} {hds : List ExceptHandler} {l : List (Nat × Option Nat × (Nat → TS))} {tb : TS} {cs : List Nat} (hcs : l.map (·.1) = cs) (hx : ∀ c ∈ cs, ∀ C ∈ cs, PySem.W.exmOne X.K (.ref c) (.ref C) = some (decide (c = C))) (hs : X.stack = X.env :: X.outer) (hf : X.env.frame = some X.env.locals)
    (hb : ∀ pn xe, PassesOwn (model X.prog X.w) X.A X.env xe → PSs3 (X.tr pn xe) body tb) (hh : Cls3 X (h₀ :: hds) l) : PS3 X (.Try body (h₀ :: hds) [] [] pos) (sTryMany l tb) := fun E tk => by
  subst hcs
  let wb : WX → L2.TS := fun W D σ H => ∃ γ G D3, (∀ cls d σ' H', Ext X.K H H' → lowX X.K ⟨D3.ex, H⟩ cls d σ' H' → W cls d σ' H') ∧ EndsOk X.K H H D3 D ∧ RepS X.K H H γ σ ∧ Rel X.K H G ∧ tb D3 γ G
  refine ⟨_, ps_try_cls (tb := wb) hs hf tk (fun W pn xe tkW hp => ⟨fun pins s σ H D I hw => ?_⟩) (cls_ok hh), fun D D3 σ H γ G he ho hsg hr h3 => ?_⟩
  · obtain ⟨γ, G, D3, hle, hends, hr1, hr2, h3⟩ := hw
    have tk' : TakesE (X.tr pn xe) ⟨D3.ex, H⟩ := tkM_imp tkW fun cls d σ' H' z => by
      obtain ⟨γ', G', w, es, q1, q2, q3, q4, q5⟩ := z
      exact hle cls d σ' H' q1.x ⟨γ', G', w, es, q1, q2, q3, q4, q5⟩
    obtain ⟨t, p, q⟩ := hb pn xe hp ⟨D3.ex, H⟩ tk'
    exact p.run pins s σ H D I (q D D3 σ H γ G rfl hends hr1 hr2 h3)
  · refine ⟨γ, G, { D3 with ex := fun γ' w es G' => (match w with | .ref c => es = [] ∧ clsX D3 l c γ' G' | _ => False) }, fun cls d σ' H' x' z => ?_, ?_, ⟨hsg.f, .refl⟩, hr, h3⟩
    · obtain ⟨γ', G', w, es, q1, q2, q3, q4, q5⟩ := z
      simp only at q5
      split at q5
      · obtain ⟨rfl, q5⟩ := q5
        cases q3
        have hd : d = none := by
          rcases q4 with ⟨q, _⟩ | ⟨_, _, q⟩
          · exact q
          · cases q
        subst hd
        exact wcls_of (ho.ext x') ⟨q1.f, hsg.x.trans x'⟩ q2 l (hx _ (clsX_mem q5)) q5
      · exact q5.elim
    · exact ⟨fun σ' H' γ' G' y r q z => ho.nx σ' H' γ' G' y ⟨r.f, hsg.x.trans y⟩ q z, ho.rt, fun σ' H' γ' G' y r q z => ho.bk σ' H' γ' G' y ⟨r.f, hsg.x.trans y⟩ q z, fun σ' H' γ' G' y r q z => ho.ct σ' H' γ' G' y ⟨r.f, hsg.x.trans y⟩ q z⟩
/-- dict(d): a copy -/
theorem b_dict : CallR3 X (.type "dict") bDict := by
  refine ⟨_, call_dictD, fun ws vs H G Q3 Q r rv h k => ?_⟩
  unfold bDict at h
  split at h
  · rename_i a
    obtain ⟨v, rfl, e⟩ := repl1 rv
    rw [rep_ref1 e]
    split at h
    · rename_i kvs eq
      obtain ⟨ks, s1, s2⟩ := r a _ eq
      refine ⟨a, ks, rfl, .inl s1, fun p hp => ?_⟩
      exact k _ _ _ _ (.new hp) (r.new (o := .dct kvs) hp ⟨ks, upd_same, s2.ext (.new hp)⟩) rref (h p (r.free hp))
    · exact h.elim
  · exact h.elim
end
theorem keyW_str {k : Key} {l : List Nat} (h : W.str l = keyW k) : k = .inr (S l) := by
  cases k with
  | inl i => cases h
  | inr x =>
    simp only [keyW] at h
    injection h with h
    rw [h, S_of]
theorem repKV_strs {K : Frag} {H : Hp} : ∀ {ws : List (W × W)} {ks : List (Key × V)} {L : List (List Nat)}, RepKV keyW K H ws ks → ws.map (·.1) = L.map W.str → ks.map (·.1) = (L.map S).map Sum.inr
  | [], _, L, h, e => by
    cases h
    cases L with
    | nil => rfl
    | cons a b => cases e
  | w :: ws, _, L, h, e => by
    obtain ⟨v, r, rfl, a, b, c⟩ := h
    cases L with
    | nil => cases e
    | cons l L =>
      injection e with e1 e2
      rw [List.map_cons, List.map_cons, List.map_cons, repKV_strs c e2, keyW_str (e1.symm.trans a)]
section
variable {X : Cx}
theorem b_sortedS (hc : X.calm = true) : CallR3 X (.builtin "sorted") bSortdS := by
  refine ⟨_, call_sortedD hc, fun ws vs H G Q3 Q r rv h k => ?_⟩
  unfold bSortdS at h
  split at h
  · rename_i a
    obtain ⟨v, rfl, e⟩ := repl1 rv
    rw [rep_ref1 e]
    split at h
    · rename_i kvs eq
      obtain ⟨L, eL, h64, h⟩ := h
      obtain ⟨ks, s1, s2⟩ := r a _ eq
      refine ⟨a, ks, L.map S, rfl, .inl s1, repKV_strs s2 eL, by rw [List.length_map]; exact h64, fun ys p pm _ hp => ?_⟩
      have e1 : (ys.map fun y => y.cps.toList).map S = ys := by
        rw [List.map_map]
        exact (List.map_congr_left fun y _ => S_of y).trans (List.map_id _)
      have pm2 : (ys.map fun y => y.cps.toList).Perm L := by
        have := pm.map fun y : Str => y.cps.toList
        rw [List.map_map] at this
        have e2 : L.map ((fun y : Str => y.cps.toList) ∘ S) = L := (List.map_congr_left fun y _ => S_toList y).trans (List.map_id _)
        rw [e2] at this
        exact this
      have rp := repl_strs (K := X.K) (H := H) (ys.map fun y => y.cps.toList)
      rw [e1] at rp
      exact k _ _ _ _ (.new hp) (r.new (o := .lst ((ys.map fun y => y.cps.toList).map W.str)) hp ⟨_, upd_same, rp.ext (.new hp)⟩) rref (h p _ (r.free hp) pm2)
    · exact h.elim
  · exact h.elim
end
end L3

end
section
/-! L3SndW: == and != of any list with an empty one. -/
namespace L3
open PySem PySem.Spec PyProof.Rows L2
section
variable {X : Cx} {pins : List (Addr × Obj)} {s : Shared} {σ : St} {H : Hp} {a b : Addr} {xs : List V}
theorem emp_size (I : Inv X pins σ H s) (h1 : SqL X.K H a xs) : ∃ its : List Value, s.heap.IsList a its.toArray ∧ its.length = xs.length := by
  obtain ⟨its, rv, hl, _⟩ := I.list h1
  exact ⟨its, hl.isList, rv.length.symm⟩
theorem eqE_at (I : Inv X pins σ H s) (h1 : SqL X.K H a xs) (h2 : SqL X.K H b []) (hu : X.A.units + 64 < cLine) : SeqAt.RcAt X.A s (.ref a) (.ref b) xs.isEmpty := by
  obtain ⟨its, l1, n1⟩ := emp_size I h1
  obtain ⟨its2, l2, n2⟩ := emp_size I h2
  have e2 : its2 = [] := List.eq_nil_of_length_eq_zero (by simpa using n2)
  subst e2
  cases xs with
  | nil =>
    have e1 : its = [] := List.eq_nil_of_length_eq_zero (by simpa using n1)
    subst e1
    exact SeqAt.RcAt.lists (A := X.A) (e := fun _ => true) l1 l2 rfl (by omega) fun j j1 j2 => absurd j1 (by simp)
  | cons x xs => exact SeqAt.RcAt.lists_lengths l1 l2 (by simp at n1 ⊢; intro z; rw [z] at n1; simp at n1) (by omega)
theorem neE_at (I : Inv X pins σ H s) (h1 : SqL X.K H a xs) (h2 : SqL X.K H b []) (hu : X.A.units + 64 < cLine) : SeqAt.RcNeAt X.A s (.ref a) (.ref b) (!xs.isEmpty) := by
  obtain ⟨its, l1, n1⟩ := emp_size I h1
  obtain ⟨its2, l2, n2⟩ := emp_size I h2
  have e2 : its2 = [] := List.eq_nil_of_length_eq_zero (by simpa using n2)
  subst e2
  cases xs with
  | nil =>
    have e1 : its = [] := List.eq_nil_of_length_eq_zero (by simpa using n1)
    subst e1
    exact SeqAt.RcNeAt.lists (A := X.A) (e := fun _ => true) l1 l2 rfl (by omega) fun j j1 j2 => absurd j1 (by simp)
  | cons x xs => exact SeqAt.RcNeAt.lists_lengths l1 l2 (by simp at n1 ⊢; intro z; rw [z] at n1; simp at n1) (by omega)
end
section
variable {X : Cx}
def rEqEl (K : Frag) (f : Bool → Bool) : L2.R2 := fun x y H Q => ∃ a b xs, x = .ref a ∧ y = .ref b ∧ SqL K H a xs ∧ SqL K H b [] ∧ Q (.bl (f xs.isEmpty)) H
theorem op_eqE (hu : X.A.units + 64 < cLine) : OpR X (compareOp .Eq) (rEqEl X.K fun k => k) := by
  rintro pins s σ H x y v u Q I rx ry ⟨a, b, xs, rfl, rfl, h1, h2, q⟩
  obtain rfl : v = Value.ref a := rx
  obtain rfl : u = Value.ref b := ry
  exact eqE_at I h1 h2 hu X.prog X.w _ _ ⟨.bl _, H, I, rfl, q⟩
theorem op_neE (hu : X.A.units + 64 < cLine) : OpR X (compareOp .NotEq) (rEqEl X.K fun k => !k) := by
  rintro pins s σ H x y v u Q I rx ry ⟨a, b, xs, rfl, rfl, h1, h2, q⟩
  obtain rfl : v = Value.ref a := rx
  obtain rfl : u = Value.ref b := ry
  exact neE_at I h1 h2 hu X.prog X.w _ _ ⟨.bl _, H, I, rfl, q⟩
theorem emp_sim {f : Bool → Bool} {x y : W} {v u : V} {H : Hp} {G : Gh} {Q : V → Hp → Prop} (r : Rel X.K H G) (rv : Rep X.K H x v) (ru : Rep X.K H y u)
    (h : ∃ a b xs, x = .ref a ∧ y = .ref b ∧ G a = some (.lst xs) ∧ G b = some (.lst []) ∧ Q (.bl (f xs.isEmpty)) H) : rEqEl X.K f v u H Q := by
  obtain ⟨a, b, xs, rfl, rfl, e1, e2, q⟩ := h
  obtain ⟨vs, s1, s2⟩ := r.lst e1
  obtain ⟨us, t1, t2⟩ := r.lst e2
  rw [rep_ref1 rv, rep_ref1 ru]
  have n1 := s2.length
  have n2 := t2.length
  have e3 : us = [] := List.eq_nil_of_length_eq_zero (by simpa using n2.symm)
  subst e3
  have e4 : vs.isEmpty = xs.isEmpty := by cases vs <;> cases xs <;> first | rfl | (simp at n1)
  exact ⟨a, b, vs, rfl, rfl, .inl (.inl s1), .inl (.inl t1), by rw [e4]; exact q⟩
theorem o_eqE (hu : X.A.units + 64 < cLine) : OpR3 X (compareOp .Eq) rEqE := by
  refine ⟨_, op_eqE hu, fun x y v u H G Q3 Q r rv ru h k => ?_⟩
  refine emp_sim r rv ru ?_
  simp only [rEqE] at h
  split at h
  · split at h
    · rename_i a _ xs e1
      split at h
      · split at h
        · rename_i b _ e2
          exact ⟨_, _, _, rfl, rfl, e1, e2, k _ H _ G .refl r rbl h⟩
        · exact h.elim
      · exact h.elim
    · exact h.elim
  · exact h.elim
theorem o_neE (hu : X.A.units + 64 < cLine) : OpR3 X (compareOp .NotEq) rNeE := by
  refine ⟨_, op_neE hu, fun x y v u H G Q3 Q r rv ru h k => ?_⟩
  refine emp_sim r rv ru ?_
  simp only [rNeE] at h
  split at h
  · split at h
    · rename_i a _ xs e1
      split at h
      · split at h
        · rename_i b _ e2
          exact ⟨_, _, _, rfl, rfl, e1, e2, k _ H _ G .refl r rbl h⟩
        · exact h.elim
      · exact h.elim
    · exact h.elim
  · exact h.elim
end
end L3

end
section
/-! L3Head: the end of a proof over such facts. -/
namespace L3
open PySem PySem.Spec PyProof.Rows L2 He
/-! ### the end -/
theorem walkX {l : PySem.W.OpenLaw} {n k : Nat} {q : Program} {loose : List Str} {XP : (Str → Option Value) → Heap → Prop} {YP : World → Heap → Prop} {d : DefRec} {x : Str}
    (hn : l.most = some n) (hn2 : n ≤ sizeLine) (hdf : d.params.defaults = []) (hr : Room k callerA)
    (F : ∀ (w : World) (mg : Str → Option Value) (fa : Addr) (h : Heap), YP w h → h.Ns mainGlobals mg → mg d.name = some (.ref fa) →
      ∃ (K : Frag) (fd : FuncData) (sp : L2.Sp), K.In h ∧ (∀ (s : Shared) (u : Value), BindsTo s fd ⟨[u], []⟩ [(x, u)]) ∧
        (∀ (H : Hp) (a : Addr) (ns : List Int), ns.length ≤ n → L2.Only H → SqL K H a (ns.map V.int) → sp [.ref a] H (fun v _ => v = .bl true) fun _ _ _ => False) ∧
        ∀ base : Heap, K.In base → base.Ns mainGlobals mg → FnOk l.prog w K mg base (CXM l.prog w) k fa fd [x] sp) :
    PySem.W.WalkO q loose XP YP l.row.toRowW d [] (fun f vs => PySem.call f vs) := by
  refine Att.attach_call hn hdf fun w s0 s1 mg mb fa o pm cd doc a vs ns G Y ho hd hcd hmg hobj hints hlen hg => ?_
  obtain ⟨K, fd, sp, KX, hb, hsp, hF⟩ := F w mg fa _ Y G.T.g hmg
  refine law_call KX G.T.g G.T.b G.T.builtins G.T.nolimit hg hobj hints (Nat.le_trans hlen hn2) hr hF hb (fun H hO hS => hsp H a ns hlen hO hS) fun H e s' z => ?_
  obtain ⟨_, _, _, _, _, _, _, _, _, _, _, _, z⟩ := z
  exact z
end L3

end
section
namespace L3.Lw
open L3
def ns_Keeper : List (List Nat) := [[95, 99, 111, 109, 112, 117, 116, 101], [95, 105, 110, 112, 117, 116, 115], [95, 101, 110, 116, 114, 105, 101, 115], [95, 114, 101, 118, 105, 115, 105, 111, 110], [95, 108, 101, 102, 116], [95, 103, 111, 105, 110, 103], [95, 97, 115, 107, 101, 100], [95, 100, 111, 110, 101]]
def ns_Server : List (List Nat) := [[95, 116, 101, 120, 116, 115], [95, 107, 101, 101, 112, 101, 114], [95, 100, 111, 110, 101], [95, 117, 110, 100, 111, 110, 101]]
def rd_law_tape_b0 : TS := sSet 2 (eOp rMod (eBlt bInt (aCons (eOp rAdd (eOp rMul (eVar 2) (eC (.int 31))) (eVar 3)) (aNil))) (eC (.int 2147483647)))
/-- _law_tape -/
def rd_law_tape : TS := sSeq (sSet 1 (eLc (iVal (eVar 0)) (gName 3) (tYes) (eBlt bAbs (aCons (eBlt bInt (aCons (eVar 3) (aNil))) (aNil))) [3])) (sSeq (sSet 2 (eC (.int 7))) (sSeq (sFor (iVal (eVar 1)) (gName 3) (rd_law_tape_b0)) (sRet (eDict [(eC (.str [99, 101, 108, 108, 115]), eVar 1), (eC (.str [97, 116]), eC (.int 0)), (eC (.str [108, 101, 102, 116]), eC (.int 0)), (eC (.str [115, 101, 101, 100]), eVar 2), (eC (.str [115, 97, 108, 116]), eC (.int 0))]))))
/-- _law_take -/
def rd_law_take : TS := sSeq (sIf (tAnd (tV (eOp rEq (eOp rDget (eVar 0) (eC (.str [108, 101, 102, 116]))) (eC (.int 0)))) (tV (eOp rLt (eOp rDget (eVar 0) (eC (.str [97, 116]))) (eBlt bLen (aCons (eOp rDget (eVar 0) (eC (.str [99, 101, 108, 108, 115]))) (aNil)))))) (sSeq (sDput (eOp rIx (eOp rDget (eVar 0) (eC (.str [99, 101, 108, 108, 115]))) (eOp rDget (eVar 0) (eC (.str [97, 116])))) (eVar 0) (eC (.str [108, 101, 102, 116]))) (sDput (eOp rAdd (eOp rDget (eVar 0) (eC (.str [97, 116]))) (eC (.int 1))) (eVar 0) (eC (.str [97, 116])))) (sNext)) (sSeq (sIf (tV (eOp rGt (eOp rDget (eVar 0) (eC (.str [108, 101, 102, 116]))) (eC (.int 0)))) (sSeq (sSet 3 (eOp rMod (eBlt bInt (aCons (eOp rDget (eVar 0) (eC (.str [108, 101, 102, 116]))) (aNil))) (eVar 1))) (sSeq (sDput (eOp rDiv (eOp rDget (eVar 0) (eC (.str [108, 101, 102, 116]))) (eVar 1)) (eVar 0) (eC (.str [108, 101, 102, 116]))) (sRet (eVar 3)))) (sNext)) (sSeq (sDput (eOp rAdd (eOp rDget (eVar 0) (eC (.str [115, 97, 108, 116]))) (eC (.int 1))) (eVar 0) (eC (.str [115, 97, 108, 116]))) (sSeq (sSet 2 (eOp rMod (eBlt bInt (aCons (eOp rAdd (eOp rMul (eOp rDget (eVar 0) (eC (.str [115, 101, 101, 100]))) (eC (.int 48271))) (eOp rMul (eOp rDget (eVar 0) (eC (.str [115, 97, 108, 116]))) (eC (.int 69621)))) (aNil))) (eC (.int 2147483647)))) (sSeq (sSet 2 (eOp rMod (eBlt bInt (aCons (eOp rAdd (eOp rAdd (eOp rMul (eVar 2) (eVar 2)) (eOp rMul (eOp rDget (eVar 0) (eC (.str [115, 97, 108, 116]))) (eC (.int 40692)))) (eC (.int 12345))) (aNil))) (eC (.int 2147483399)))) (sRet (eOp rMod (eBlt bInt (aCons (eVar 2) (aNil))) (eVar 1)))))))
/-- _law_is_integer -/
def rd_law_is_integer : TS := sRet (eAnd (eBlt bIsi (aCons (eVar 0) (aCons (eC (.ty "int")) (aNil)))) (eNot (eBlt bIsi (aCons (eVar 0) (aCons (eC (.ty "bool")) (aNil))))))
def rd_law_same_items_b0 (s_law_same : Sp) : TS := sIf (tNot (tTru (eCall s_law_same (aCons (eOp rIx (eVar 0) (eVar 2)) (aCons (eOp rIx (eVar 1) (eVar 2)) (aNil)))))) (sRet (eC (.bl false))) (sNext)
/-- _law_same_items -/
def rd_law_same_items (s_law_same : Sp) : TS := sSeq (sIf (tV (eOp rNe (eBlt bLen (aCons (eVar 0) (aNil))) (eBlt bLen (aCons (eVar 1) (aNil))))) (sRet (eC (.bl false))) (sNext)) (sSeq (sFor (iRng1 (aCons (eBlt bLen (aCons (eVar 1) (aNil))) (aNil))) (gName 2) (rd_law_same_items_b0 s_law_same)) (sRet (eC (.bl true))))
def rd_law_same_b0 (s_law_same : Sp) : TS := sIf (tOr (tV (eOp rNotInD (eVar 2) (eVar 0))) (tNot (tTru (eCall s_law_same (aCons (eOp rAt (eVar 0) (eVar 2)) (aCons (eOp rAt (eVar 1) (eVar 2)) (aNil))))))) (sRet (eC (.bl false))) (sNext)
def rd_law_same_b1 : TS := sIf (tTru (eBlt bIsi (aCons (eVar 2) (aCons (eC (.ty "bool")) (aNil))))) (sRet (eC (.bl false))) (sNext)
/-- _law_same -/
def rd_law_same (s_law_is_integer : Sp) (s_law_same_items : Sp) (s_law_same : Sp) : TS := sSeq (sIf (tV (eOp rIs (eVar 1) (eC .non))) (sRet (eOp rIs (eVar 0) (eC .non))) (sNext)) (sSeq (sIf (tTru (eBlt bIsi (aCons (eVar 1) (aCons (eC (.ty "bool")) (aNil))))) (sRet (eAnd (eBlt bIsi (aCons (eVar 0) (aCons (eC (.ty "bool")) (aNil)))) (eOp rEq (eVar 0) (eVar 1)))) (sNext)) (sSeq (sIf (tTru (eBlt bIsi (aCons (eVar 1) (aCons (eC (.ty "int")) (aNil))))) (sRet (eAnd (eCall s_law_is_integer (aCons (eVar 0) (aNil))) (eOp rEq (eVar 0) (eVar 1)))) (sNext)) (sSeq (sIf (tTru (eBlt bIsi (aCons (eVar 1) (aCons (eC (.ty "str")) (aNil))))) (sRet (eAnd (eBlt bIsi (aCons (eVar 0) (aCons (eC (.ty "str")) (aNil)))) (eOp rEq (eVar 0) (eVar 1)))) (sNext)) (sSeq (sIf (tTru (eBlt bIsi (aCons (eVar 1) (aCons (eC (.ty "tuple")) (aNil))))) (sRet (eAnd (eBlt bIsi (aCons (eVar 0) (aCons (eC (.ty "tuple")) (aNil)))) (eCall s_law_same_items (aCons (eVar 0) (aCons (eVar 1) (aNil)))))) (sNext)) (sSeq (sIf (tTru (eBlt bIsi (aCons (eVar 1) (aCons (eC (.ty "list")) (aNil))))) (sRet (eAnd (eBlt bIsi (aCons (eVar 0) (aCons (eC (.ty "list")) (aNil)))) (eCall s_law_same_items (aCons (eVar 0) (aCons (eVar 1) (aNil)))))) (sNext)) (sSeq (sIf (tOr (tNot (tTru (eBlt bIsi (aCons (eVar 0) (aCons (eC (.ty "dict")) (aNil)))))) (tV (eOp rNe (eBlt bLen (aCons (eVar 0) (aNil))) (eBlt bLen (aCons (eVar 1) (aNil)))))) (sRet (eC (.bl false))) (sNext)) (sSeq (sLock (sFor (iKeys (eVar 1)) (gName 2) (rd_law_same_b0 s_law_same))) (sSeq (sLock (sFor (iKeys (eVar 0)) (gName 2) (rd_law_same_b1))) (sRet (eC (.bl true)))))))))))
/-- _law_snippet -/
def rd_law_snippet (s_law_take : Sp) : TS := sSeq (sSet 1 (eLst (aCs [(.str [100, 101, 102, 32, 102, 57, 40]), (.str [100, 97, 116, 97, 32]), (.str [102, 48]), (.str [120]), (.str [40]), (.str [41]), (.str [58, 32, 73, 110, 116]), (.str [32, 61, 32]), (.str [49]), (.str [32, 43, 32]), (.str [10]), (.str [10, 32]), (.str [35, 32]), (.str [40, 108, 101, 116, 32, 120, 32, 61, 32]), (.str [32, 105, 110, 32]), (.str [44])]))) (sSeq (sSet 1 (eOp rAdd (eVar 1) (eLst (aCs [(.str [105, 109, 112, 111, 114, 116, 32, 109, 97, 105, 110, 58, 32]), (.str [97]), (.str [68, 48]), (.str [103, 48]), (.str [84, 48]), (.str [66, 111, 111, 108]), (.str [105, 102, 32]), (.str [32, 116, 104, 101, 110, 32]), (.str [32, 101, 108, 115, 101, 32]), (.str [46, 120]), (.str [32, 61, 61, 32]), (.str [102, 49, 40]), (.str [113]), (.str [32])])))) (sRet (eBm "str" mJoin (eC (.str [])) (aCons (eLc (iRng1 (aCons (eCall s_law_take (aCons (eVar 0) (aCons (eC (.int 4)) (aNil)))) (aNil))) (gName 2) (tYes) (eOp rIx (eVar 1) (eCall s_law_take (aCons (eVar 0) (aCons (eC (.int 30)) (aNil))))) [2]) (aNil)))))
/-- _law_edit_of -/
def rd_law_edit_of (s_law_take : Sp) (s_law_snippet : Sp) : TS := sSeq (sSet 2 (eCall s_law_take (aCons (eVar 0) (aCons (eOp rAdd (eBlt bLen (aCons (eVar 1) (aNil))) (eC (.int 1))) (aNil))))) (sSeq (sSet 3 (eBlt bMin (aCons (eBlt bLen (aCons (eVar 1) (aNil))) (aCons (eOp rAdd (eVar 2) (eOp rAt (eLst (aCs [(.int 0), (.int 1), (.int 2), (.int 5), (.int 12)])) (eCall s_law_take (aCons (eVar 0) (aCons (eC (.int 5)) (aNil)))))) (aNil))))) (sRet (eTup (aCons (eVar 2) (aCons (eVar 3) (aCons (eCall s_law_snippet (aCons (eVar 0) (aNil))) (aNil)))))))
def rd_run_end_c0 : TT := tAnd (tV (eOp rLt (eVar 3) (eBlt bLen (aCons (eVar 0) (aNil))))) (tV (eOp rInD (eOp rAt (eVar 0) (eVar 3)) (eVar 2)))
def rd_run_end_b1 : TS := sAug 3 rIadd (eC (.int 1))
/-- run_end -/
def rd_run_end : TS := sSeq (sSet 3 (eVar 1)) (sSeq (sWhile (rd_run_end_c0) (rd_run_end_b1)) (sRet (eVar 3)))
/-- token_at -/
def rd_token_at (s_run_end : Sp) : TS := sSeq (sSet 2 (eOp rAt (eVar 0) (eVar 1))) (sSeq (sIf (tV (eOp rInD (eVar 2) (eC c_LETTERS))) (sSeq (sSet 3 (eCall s_run_end (aCons (eVar 0) (aCons (eVar 1) (aCons (eC c_NAME_CHARACTERS) (aNil)))))) (sSeq (sIf (tV (eOp rInD (eSl (eVar 0) (oPart (eVar 1)) (oPart (eVar 3))) (eC c_WORDS))) (sRet (eTup (aCons (eC (.str [119, 111, 114, 100])) (aCons (eVar 1) (aCons (eVar 3) (aNil)))))) (sNext)) (sRet (eTup (aCons (eC (.str [110, 97, 109, 101])) (aCons (eVar 1) (aCons (eVar 3) (aNil)))))))) (sNext)) (sSeq (sIf (tV (eOp rInD (eVar 2) (eC c_DIGITS))) (sRet (eTup (aCons (eC (.str [110, 117, 109, 98, 101, 114])) (aCons (eVar 1) (aCons (eCall s_run_end (aCons (eVar 0) (aCons (eVar 1) (aCons (eC c_DIGITS) (aNil))))) (aNil)))))) (sNext)) (sSeq (sIf (tV (eOp rEq (eSl (eVar 0) (oPart (eVar 1)) (oPart (eOp rAdd (eVar 1) (eC (.int 2))))) (eC (.str [61, 61])))) (sRet (eTup (aCons (eC (.str [115, 105, 103, 110])) (aCons (eVar 1) (aCons (eOp rAdd (eVar 1) (eC (.int 2))) (aNil)))))) (sNext)) (sSeq (sIf (tV (eOp rInD (eVar 2) (eC c_SIGNS))) (sRet (eTup (aCons (eC (.str [115, 105, 103, 110])) (aCons (eVar 1) (aCons (eOp rAdd (eVar 1) (eC (.int 1))) (aNil)))))) (sNext)) (sRet (eTup (aCons (eC (.str [119, 114, 111, 110, 103])) (aCons (eVar 1) (aCons (eOp rAdd (eVar 1) (eC (.int 1))) (aNil))))))))))
def rd_tokens_between_c0 : TT := tV (eOp rLt (eVar 4) (eVar 2))
def rd_tokens_between_b1 (s_token_at : Sp) : TS := sIf (tOr (tV (eOp rEq (eOp rAt (eVar 0) (eVar 4)) (eC (.str [32])))) (tV (eOp rEq (eOp rAt (eVar 0) (eVar 4)) (eC (.str [10]))))) (sAug 4 rIadd (eC (.int 1))) (sIf (tV (eOp rEq (eOp rAt (eVar 0) (eVar 4)) (eC (.str [35])))) (sSeq (sSet 5 (eBm "str" mFind3 (eVar 0) (aCons (eC (.str [10])) (aCons (eVar 4) (aNil))))) (sSet 4 (eIf (tV (eOp rLt (eVar 5) (eC (.int 0)))) (eVar 2) (eVar 5)))) (sSeq (sSet 6 (eCall s_token_at (aCons (eVar 0) (aCons (eVar 4) (aNil))))) (sSeq (sDrop (eBm "list" mAppend (eVar 3) (aCons (eVar 6) (aNil)))) (sSet 4 (eOp rAt (eVar 6) (eC (.int 2)))))))
/-- tokens_between -/
def rd_tokens_between (s_token_at : Sp) : TS := sSeq (sSet 3 (eLst (aNil))) (sSeq (sSet 4 (eVar 1)) (sSeq (sWhile (rd_tokens_between_c0) (rd_tokens_between_b1 s_token_at)) (sRet (eVar 3))))
/-- tokens -/
def rd_tokens (s_tokens_between : Sp) : TS := sRet (eCall s_tokens_between (aCons (eVar 0) (aCons (eC (.int 0)) (aCons (eBlt bLen (aCons (eVar 0) (aNil))) (aNil)))))
/-- is_name -/
def rd_is_name (s_tokens : Sp) : TS := sRet (eOp rEq (eCall s_tokens (aCons (eVar 0) (aNil))) (eLst (aCons (eTup (aCons (eC (.str [110, 97, 109, 101])) (aCons (eC (.int 0)) (aCons (eBlt bLen (aCons (eVar 0) (aNil))) (aNil))))) (aNil))))
def rd_has_right_characters_b0 : TS := sIf (tV (eOp rNotInD (eVar 1) (eC c_CHARACTERS))) (sRet (eC (.bl false))) (sNext)
/-- has_right_characters -/
def rd_has_right_characters : TS := sSeq (sFor (iVal (eVar 0)) (gName 1) (rd_has_right_characters_b0)) (sRet (eC (.bl true)))
/-- is_text -/
def rd_is_text (s_has_right_characters : Sp) : TS := sRet (eAnd (eOp rLe (eBlt bLen (aCons (eVar 0) (aNil))) (eC c_MOST)) (eCall s_has_right_characters (aCons (eVar 0) (aNil))))
/-- apply_edit -/
def rd_apply_edit (C_InvalidEdit : Nat) (s_has_right_characters : Sp) : TS := sSeq (sAsg (eVar 1) (gTup 3 (gCons (gName 3) (gCons (gName 4) (gCons (gName 5) (gNil)))))) (sSeq (sIf (tOr (tNot (tV (eCh3 rLe rLe rLe (eC (.int 0)) (eVar 3) (eVar 4) (eBlt bLen (aCons (eVar 0) (aNil)))))) (tNot (tTru (eCall s_has_right_characters (aCons (eVar 5) (aNil)))))) (sThrow C_InvalidEdit) (sNext)) (sSeq (sSet 2 (eOp rAdd (eOp rAdd (eSl (eVar 0) (oNo) (oPart (eVar 3))) (eVar 5)) (eSl (eVar 0) (oPart (eVar 4)) (oNo)))) (sSeq (sIf (tV (eOp rGt (eBlt bLen (aCons (eVar 2) (aNil))) (eC c_MOST))) (sThrow C_InvalidEdit) (sNext)) (sRet (eVar 2)))))
/-- inverse -/
def rd_inverse (s_apply_edit : Sp) : TS := sSeq (sDrop (eCall s_apply_edit (aCons (eVar 0) (aCons (eVar 1) (aNil))))) (sSeq (sAsg (eVar 1) (gTup 3 (gCons (gName 2) (gCons (gName 3) (gCons (gName 4) (gNil)))))) (sRet (eTup (aCons (eVar 2) (aCons (eOp rAdd (eVar 2) (eBlt bLen (aCons (eVar 4) (aNil)))) (aCons (eSl (eVar 0) (oPart (eVar 2)) (oPart (eVar 3))) (aNil)))))))
/-- need_module -/
def rd_need_module (C_InvalidEdit : Nat) (s_is_name : Sp) (s_is_text : Sp) : TS := sIf (tOr (tNot (tTru (eCall s_is_name (aCons (eVar 0) (aNil))))) (tNot (tTru (eCall s_is_text (aCons (eVar 1) (aNil)))))) (sThrow C_InvalidEdit) (sNext)
/-- Keeper.__init__ -/
def rd_Keeper__init (C_Keeper : Nat) : TS := sSeq (sFld C_Keeper ns_Keeper 0 (eVar 0) (eVar 1)) (sSeq (sFld C_Keeper ns_Keeper 1 (eVar 0) (eDnewT)) (sSeq (sFld C_Keeper ns_Keeper 2 (eVar 0) (eDnewT)) (sSeq (sFld C_Keeper ns_Keeper 3 (eVar 0) (eC (.int 0))) (sSeq (sFld C_Keeper ns_Keeper 4 (eVar 0) (eC .non)) (sSeq (sFld C_Keeper ns_Keeper 5 (eVar 0) (eDnewT)) (sSeq (sFld C_Keeper ns_Keeper 6 (eVar 0) (eLst (aNil))) (sFld C_Keeper ns_Keeper 7 (eVar 0) (eLst (aNil)))))))))
/-- Keeper.put -/
def rd_Keeper_put (C_Keeper : Nat) : TS := sSeq (sDrop (eDpop2 (eFld C_Keeper ns_Keeper 2 (eVar 0)) (eVar 1) (eC .non))) (sSeq (sIf (tAnd (tV (eOp rInD (eVar 1) (eFld C_Keeper ns_Keeper 1 (eVar 0)))) (tV (eOp rEq (eOp rAt (eOp rAt (eFld C_Keeper ns_Keeper 1 (eVar 0)) (eVar 1)) (eC (.int 0))) (eVar 2)))) (sRetN) (sNext)) (sSeq (sFldAug C_Keeper ns_Keeper 3 rIadd (eVar 0) (eC (.int 1))) (sPutA (eTup (aCons (eVar 2) (aCons (eFld C_Keeper ns_Keeper 3 (eVar 0)) (aNil)))) (eFld C_Keeper ns_Keeper 1 (eVar 0)) (eVar 1))))
/-- Keeper.computed -/
def rd_Keeper_computed (C_Keeper : Nat) : TS := sSeq (sSet 1 (eFld C_Keeper ns_Keeper 7 (eVar 0))) (sSeq (sFld C_Keeper ns_Keeper 7 (eVar 0) (eLst (aNil))) (sRet (eVar 1)))
def rd_new_keeper_b0 (C_Keeper : Nat) (s_Keeper_put : Sp) : TS := sDrop (eMet C_Keeper ns_Keeper s_Keeper_put (eVar 1) (aCons (eTup (aCons (eC (.str [116, 101, 120, 116])) (aCons (eVar 2) (aNil)))) (aCons (eOp rAt (eVar 0) (eVar 2)) (aNil))))
/-- new_keeper -/
def rd_new_keeper (C_Keeper : Nat) (f_compute : Nat) (s_Keeper__init : Sp) (s_Keeper_put : Sp) : TS := sSeq (sSet 1 (eMakeX C_Keeper ns_Keeper s_Keeper__init (aCons (eC (.ref f_compute)) (aNil)))) (sSeq (sDrop (eMet C_Keeper ns_Keeper s_Keeper_put (eVar 1) (aCons (eTup (aCons (eC (.str [109, 111, 100, 117, 108, 101, 115])) (aNil))) (aCons (eBlt bTuple (aCons (eBlt bSortdS (aCons (eVar 0) (aNil))) (aNil))) (aNil))))) (sSeq (sFor (iVal (eBlt bSortdS (aCons (eVar 0) (aNil)))) (gName 2) (rd_new_keeper_b0 C_Keeper s_Keeper_put)) (sRet (eVar 1))))
def rd_Server__init_b0 (s_need_module : Sp) : TS := sDrop (eCall s_need_module (aCons (eVar 2) (aCons (eOp rAt (eVar 1) (eVar 2)) (aNil))))
/-- Server.__init__ -/
def rd_Server__init (C_InvalidEdit : Nat) (C_Server : Nat) (C_Keeper : Nat) (s_need_module : Sp) (s_new_keeper : Sp) (s_Keeper_computed : Sp) : TS := sSeq (sIf (tV (eOp rGt (eBlt bLen (aCons (eVar 1) (aNil))) (eC c_MOST_MODULES))) (sThrow C_InvalidEdit) (sNext)) (sSeq (sLock (sFor (iKeys (eVar 1)) (gName 2) (rd_Server__init_b0 s_need_module))) (sSeq (sFld C_Server ns_Server 0 (eVar 0) (eBlt bDict (aCons (eVar 1) (aNil)))) (sSeq (sFld C_Server ns_Server 1 (eVar 0) (eCall s_new_keeper (aCons (eVar 1) (aNil)))) (sSeq (sDrop (eMet C_Keeper ns_Keeper s_Keeper_computed (eFld C_Server ns_Server 1 (eVar 0)) aNil)) (sSeq (sFld C_Server ns_Server 2 (eVar 0) (eLst (aNil))) (sFld C_Server ns_Server 3 (eVar 0) (eLst (aNil))))))))
/-- Server.modules -/
def rd_Server_modules (C_Server : Nat) : TS := sRet (eBlt bSortdS (aCons (eFld C_Server ns_Server 0 (eVar 0)) (aNil)))
/-- Server.program -/
def rd_Server_program (C_Server : Nat) : TS := sRet (eBlt bDict (aCons (eFld C_Server ns_Server 0 (eVar 0)) (aNil)))
/-- Server.need_file -/
def rd_Server_need_file (C_Server : Nat) (C_UnknownFile : Nat) : TS := sIf (tV (eOp rNotInD (eVar 1) (eFld C_Server ns_Server 0 (eVar 0)))) (sThrow C_UnknownFile) (sNext)
/-- Server.forget_steps -/
def rd_Server_forget_steps (C_Server : Nat) : TS := sSeq (sFld C_Server ns_Server 2 (eVar 0) (eLst (aNil))) (sFld C_Server ns_Server 3 (eVar 0) (eLst (aNil)))
/-- Server.open_file -/
def rd_Server_open_file (C_Server : Nat) (C_FileExists : Nat) (C_InvalidEdit : Nat) (C_Keeper : Nat) (s_need_module : Sp) (s_Keeper_put : Sp) (s_Server_modules : Sp) (s_Server_forget_steps : Sp) : TS := sSeq (sIf (tV (eOp rInD (eVar 1) (eFld C_Server ns_Server 0 (eVar 0)))) (sThrow C_FileExists) (sNext)) (sSeq (sDrop (eCall s_need_module (aCons (eVar 1) (aCons (eVar 2) (aNil))))) (sSeq (sIf (tV (eOp rGe (eBlt bLen (aCons (eFld C_Server ns_Server 0 (eVar 0)) (aNil))) (eC c_MOST_MODULES))) (sThrow C_InvalidEdit) (sNext)) (sSeq (sPutA (eVar 2) (eFld C_Server ns_Server 0 (eVar 0)) (eVar 1)) (sSeq (sDrop (eMet C_Keeper ns_Keeper s_Keeper_put (eFld C_Server ns_Server 1 (eVar 0)) (aCons (eTup (aCons (eC (.str [109, 111, 100, 117, 108, 101, 115])) (aNil))) (aCons (eBlt bTuple (aCons (eMet C_Server ns_Server s_Server_modules (eVar 0) aNil) (aNil))) (aNil))))) (sSeq (sDrop (eMet C_Keeper ns_Keeper s_Keeper_put (eFld C_Server ns_Server 1 (eVar 0)) (aCons (eTup (aCons (eC (.str [116, 101, 120, 116])) (aCons (eVar 1) (aNil)))) (aCons (eVar 2) (aNil))))) (sDrop (eMet C_Server ns_Server s_Server_forget_steps (eVar 0) aNil)))))))
/-- Server.set_text -/
def rd_Server_set_text (C_Server : Nat) (C_Keeper : Nat) (s_Keeper_put : Sp) : TS := sSeq (sPutA (eVar 2) (eFld C_Server ns_Server 0 (eVar 0)) (eVar 1)) (sDrop (eMet C_Keeper ns_Keeper s_Keeper_put (eFld C_Server ns_Server 1 (eVar 0)) (aCons (eTup (aCons (eC (.str [116, 101, 120, 116])) (aCons (eVar 1) (aNil)))) (aCons (eVar 2) (aNil)))))
def rd_Server_do_step_b0 (C_Server : Nat) (s_inverse : Sp) (s_Server_set_text : Sp) (s_apply_edit : Sp) : TS := sSeq (sSet 5 (eOp rAt (eFld C_Server ns_Server 0 (eVar 0)) (eVar 3))) (sSeq (sDrop (eBm "list" mAppend (eVar 2) (aCons (eTup (aCons (eVar 3) (aCons (eCall s_inverse (aCons (eVar 5) (aCons (eVar 4) (aNil)))) (aNil)))) (aNil)))) (sDrop (eMet C_Server ns_Server s_Server_set_text (eVar 0) (aCons (eVar 3) (aCons (eCall s_apply_edit (aCons (eVar 5) (aCons (eVar 4) (aNil)))) (aNil))))))
/-- Server.do_step -/
def rd_Server_do_step (C_Server : Nat) (s_inverse : Sp) (s_Server_set_text : Sp) (s_apply_edit : Sp) : TS := sSeq (sSet 2 (eLst (aNil))) (sSeq (sFor (iVal (eVar 1)) (gTup 2 (gCons (gName 3) (gCons (gName 4) (gNil)))) (rd_Server_do_step_b0 C_Server s_inverse s_Server_set_text s_apply_edit)) (sRet (eRev (eVar 2))))
/-- Server.edit -/
def rd_Server_edit (C_Server : Nat) (s_Server_need_file : Sp) (s_apply_edit : Sp) (s_Server_do_step : Sp) : TS := sSeq (sDrop (eMet C_Server ns_Server s_Server_need_file (eVar 0) (aCons (eVar 1) (aNil)))) (sSeq (sDrop (eCall s_apply_edit (aCons (eOp rAt (eFld C_Server ns_Server 0 (eVar 0)) (eVar 1)) (aCons (eVar 2) (aNil))))) (sSeq (sDrop (eBm "list" mAppend (eFld C_Server ns_Server 2 (eVar 0)) (aCons (eMet C_Server ns_Server s_Server_do_step (eVar 0) (aCons (eLst (aCons (eTup (aCons (eVar 1) (aCons (eVar 2) (aNil)))) (aNil))) (aNil))) (aNil)))) (sFld C_Server ns_Server 3 (eVar 0) (eLst (aNil)))))
/-- Server.undo -/
def rd_Server_undo (C_Server : Nat) (C_NothingToUndo : Nat) (s_Server_do_step : Sp) : TS := sSeq (sIf (tNot (tTru (eFld C_Server ns_Server 2 (eVar 0)))) (sThrow C_NothingToUndo) (sNext)) (sDrop (eBm "list" mAppend (eFld C_Server ns_Server 3 (eVar 0)) (aCons (eMet C_Server ns_Server s_Server_do_step (eVar 0) (aCons (eBm "list" mPop (eFld C_Server ns_Server 2 (eVar 0)) aNil) (aNil))) (aNil))))
/-- Server.redo -/
def rd_Server_redo (C_Server : Nat) (C_NothingToUndo : Nat) (s_Server_do_step : Sp) : TS := sSeq (sIf (tNot (tTru (eFld C_Server ns_Server 3 (eVar 0)))) (sThrow C_NothingToUndo) (sNext)) (sDrop (eBm "list" mAppend (eFld C_Server ns_Server 2 (eVar 0)) (aCons (eMet C_Server ns_Server s_Server_do_step (eVar 0) (aCons (eBm "list" mPop (eFld C_Server ns_Server 3 (eVar 0)) aNil) (aNil))) (aNil))))
/-- _law_do -/
def rd_law_do (C_NothingToUndo : Nat) (C_InvalidEdit : Nat) (C_UnknownFile : Nat) (C_Server : Nat) (C_ServerError : Nat) (s_Server_edit : Sp) (s_Server_undo : Sp) (s_Server_redo : Sp) (s_Server_open_file : Sp) : TS := sSeq (sTryMany [(C_NothingToUndo, some 2, fun ae => sRet (eIf (tTru (eBlt (bIsE ae (.ref C_ServerError) true) (aCons (eVar 2) (aCons (eC (.ref C_ServerError)) (aNil))))) (eC (.str [110, 111, 116, 104, 105, 110, 103])) (eC (.str [119, 114, 111, 110, 103])))), (C_InvalidEdit, none, fun ae => sRet (eC (.str [105, 110, 118, 97, 108, 105, 100]))), (C_UnknownFile, none, fun ae => sRet (eC (.str [117, 110, 107, 110, 111, 119, 110])))] (sIf (tV (eOp rEq (eOp rAt (eVar 1) (eC (.int 0))) (eC (.str [101, 100, 105, 116])))) (sDrop (eMet C_Server ns_Server s_Server_edit (eVar 0) (aCons (eOp rAt (eVar 1) (eC (.int 1))) (aCons (eOp rAt (eVar 1) (eC (.int 2))) (aNil))))) (sIf (tV (eOp rEq (eOp rAt (eVar 1) (eC (.int 0))) (eC (.str [117, 110, 100, 111])))) (sDrop (eMet C_Server ns_Server s_Server_undo (eVar 0) aNil)) (sIf (tV (eOp rEq (eOp rAt (eVar 1) (eC (.int 0))) (eC (.str [114, 101, 100, 111])))) (sDrop (eMet C_Server ns_Server s_Server_redo (eVar 0) aNil)) (sDrop (eMet C_Server ns_Server s_Server_open_file (eVar 0) (aCons (eOp rAt (eVar 1) (eC (.int 1))) (aCons (eC (.str [])) (aNil))))))))) (sRet (eC (.str [100, 111, 110, 101])))
/-- _law_expected -/
def rd_law_expected : TS := sSeq (sSet 2 (eOp rAt (eOp rDget (eVar 0) (eC (.str [112, 97, 115, 116]))) (eUn rNeg (eC (.int 1))))) (sSeq (sIf (tV (eOp rEq (eOp rAt (eVar 1) (eC (.int 0))) (eC (.str [117, 110, 100, 111])))) (sSeq (sIf (tV (eOp rEq (eBlt bLen (aCons (eOp rDget (eVar 0) (eC (.str [112, 97, 115, 116]))) (aNil))) (eC (.int 1)))) (sRet (eC (.str [110, 111, 116, 104, 105, 110, 103]))) (sNext)) (sSeq (sDrop (eBm "list" mAppend (eOp rDget (eVar 0) (eC (.str [102, 117, 116, 117, 114, 101]))) (aCons (eBm "list" mPop (eOp rDget (eVar 0) (eC (.str [112, 97, 115, 116]))) aNil) (aNil)))) (sRet (eC (.str [100, 111, 110, 101]))))) (sNext)) (sSeq (sIf (tV (eOp rEq (eOp rAt (eVar 1) (eC (.int 0))) (eC (.str [114, 101, 100, 111])))) (sSeq (sIf (tV (eOp rEqE (eOp rDget (eVar 0) (eC (.str [102, 117, 116, 117, 114, 101]))) (eLst (aNil)))) (sRet (eC (.str [110, 111, 116, 104, 105, 110, 103]))) (sNext)) (sSeq (sDrop (eBm "list" mAppend (eOp rDget (eVar 0) (eC (.str [112, 97, 115, 116]))) (aCons (eBm "list" mPop (eOp rDget (eVar 0) (eC (.str [102, 117, 116, 117, 114, 101]))) aNil) (aNil)))) (sRet (eC (.str [100, 111, 110, 101]))))) (sNext)) (sSeq (sSet 3 (eBlt bDict (aCons (eVar 2) (aNil)))) (sSeq (sIf (tV (eOp rEq (eOp rAt (eVar 1) (eC (.int 0))) (eC (.str [111, 112, 101, 110])))) (sSeq (sPutA (eC (.str [])) (eVar 3) (eOp rAt (eVar 1) (eC (.int 1)))) (sSeq (sDput (eLst (aCons (eVar 3) (aNil))) (eVar 0) (eC (.str [112, 97, 115, 116]))) (sSeq (sDput (eLst (aNil)) (eVar 0) (eC (.str [102, 117, 116, 117, 114, 101]))) (sRet (eC (.str [100, 111, 110, 101])))))) (sNext)) (sSeq (sIf (tV (eOp rNotInD (eOp rAt (eVar 1) (eC (.int 1))) (eVar 2))) (sRet (eC (.str [117, 110, 107, 110, 111, 119, 110]))) (sNext)) (sSeq (sAsg (eOp rAt (eVar 1) (eC (.int 2))) (gTup 3 (gCons (gName 5) (gCons (gName 6) (gCons (gName 7) (gNil)))))) (sSeq (sSet 4 (eOp rAt (eVar 2) (eOp rAt (eVar 1) (eC (.int 1))))) (sSeq (sIf (tNot (tV (eCh3 rLe rLe rLe (eC (.int 0)) (eVar 5) (eVar 6) (eBlt bLen (aCons (eVar 4) (aNil)))))) (sRet (eC (.str [105, 110, 118, 97, 108, 105, 100]))) (sNext)) (sSeq (sPutA (eOp rAdd (eOp rAdd (eSl (eVar 4) (oNo) (oPart (eVar 5))) (eVar 7)) (eSl (eVar 4) (oPart (eVar 6)) (oNo))) (eVar 3) (eOp rAt (eVar 1) (eC (.int 1)))) (sSeq (sDrop (eBm "list" mAppend (eOp rDget (eVar 0) (eC (.str [112, 97, 115, 116]))) (aCons (eVar 3) (aNil)))) (sSeq (sDput (eLst (aNil)) (eVar 0) (eC (.str [102, 117, 116, 117, 114, 101]))) (sRet (eC (.str [100, 111, 110, 101]))))))))))))))
/-- _law_act -/
def rd_law_act (s_law_take : Sp) (s_law_edit_of : Sp) : TS := sSeq (sSet 2 (eOp rAt (eOp rDget (eVar 1) (eC (.str [112, 97, 115, 116]))) (eUn rNeg (eC (.int 1))))) (sSeq (sSet 3 (eCall s_law_take (aCons (eVar 0) (aCons (eC (.int 10)) (aNil))))) (sSeq (sIf (tAnd (tV (eOp rEq (eVar 3) (eC (.int 0)))) (tV (eOp rLt (eBlt bLen (aCons (eVar 2) (aNil))) (eC (.int 5))))) (sRet (eTup (aCons (eC (.str [111, 112, 101, 110])) (aCons (eOp rAdd (eC (.str [109])) (eBlt bStr (aCons (eBlt bLen (aCons (eVar 2) (aNil))) (aNil)))) (aNil))))) (sNext)) (sSeq (sIf (tV (eOp rLt (eVar 3) (eC (.int 5)))) (sRet (eTup (aCons (eOp rAt (eLst (aCons (eC (.str [117, 110, 100, 111])) (aCons (eC (.str [114, 101, 100, 111])) (aNil)))) (eOp rDiv (eCall s_law_take (aCons (eVar 0) (aCons (eC (.int 5)) (aNil)))) (eC (.int 3)))) (aCons (eC (.str [])) (aNil))))) (sNext)) (sSeq (sSet 4 (eOp rAt (eOp rAdd (eBlt bSortdS (aCons (eVar 2) (aNil))) (eLst (aCons (eC (.str [110, 111, 119, 104, 101, 114, 101])) (aNil)))) (eCall s_law_take (aCons (eVar 0) (aCons (eOp rAdd (eBlt bLen (aCons (eVar 2) (aNil))) (eC (.int 1))) (aNil)))))) (sSeq (sSet 5 (eDget2 (eVar 2) (eVar 4) (eC (.str [])))) (sSeq (sAsg (eCall s_law_edit_of (aCons (eVar 0) (aCons (eVar 5) (aNil)))) (gTup 3 (gCons (gName 6) (gCons (gName 7) (gCons (gName 8) (gNil)))))) (sSeq (sIf (tV (eOp rEq (eCall s_law_take (aCons (eVar 0) (aCons (eC (.int 8)) (aNil)))) (eC (.int 0)))) (sSet 7 (eOp rAdd (eBlt bLen (aCons (eVar 5) (aNil))) (eC (.int 1)))) (sNext)) (sRet (eTup (aCons (eC (.str [101, 100, 105, 116])) (aCons (eVar 4) (aCons (eTup (aCons (eVar 6) (aCons (eVar 7) (aCons (eVar 8) (aNil))))) (aNil)))))))))))))
def rd_law_b0 (C_Server : Nat) (s_law_act : Sp) (s_law_do : Sp) (s_law_expected : Sp) (s_law_same : Sp) (s_Server_program : Sp) : TS := sSeq (sSet 6 (eCall s_law_act (aCons (eVar 1) (aCons (eVar 4) (aNil))))) (sSeq (sIf (tV (eOp rNe (eCall s_law_do (aCons (eVar 3) (aCons (eVar 6) (aNil)))) (eCall s_law_expected (aCons (eVar 4) (aCons (eVar 6) (aNil)))))) (sRet (eC (.bl false))) (sNext)) (sIf (tNot (tTru (eCall s_law_same (aCons (eMet C_Server ns_Server s_Server_program (eVar 3) aNil) (aCons (eOp rAt (eOp rDget (eVar 4) (eC (.str [112, 97, 115, 116]))) (eUn rNeg (eC (.int 1)))) (aNil)))))) (sRet (eC (.bl false))) (sNext)))
/-- law -/
def rd_law (C_Server : Nat) (s_law_tape : Sp) (s_Server__init : Sp) (s_law_take : Sp) (s_law_act : Sp) (s_law_do : Sp) (s_law_expected : Sp) (s_law_same : Sp) (s_Server_program : Sp) : TS := sSeq (sSet 1 (eCall s_law_tape (aCons (eVar 0) (aNil)))) (sSeq (sSet 2 (eDict [(eC (.str [109, 48]), eC (.str [100, 101, 102, 32, 102, 40, 41, 32, 61, 32, 49, 10])), (eC (.str [109, 49]), eC (.str [100, 97, 116, 97, 32, 68, 40, 120, 58, 32, 73, 110, 116, 41, 10]))])) (sSeq (sSet 3 (eMakeX C_Server ns_Server s_Server__init (aCons (eVar 2) (aNil)))) (sSeq (sSet 4 (eDict [(eC (.str [112, 97, 115, 116]), eLst (aCons (eBlt bDict (aCons (eVar 2) (aNil))) (aNil))), (eC (.str [102, 117, 116, 117, 114, 101]), eLst (aNil))])) (sSeq (sFor (iRng1 (aCons (eOp rAdd (eC (.int 1)) (eCall s_law_take (aCons (eVar 1) (aCons (eC (.int 14)) (aNil))))) (aNil))) (gName 5) (rd_law_b0 C_Server s_law_act s_law_do s_law_expected s_law_same s_Server_program)) (sRet (eC (.bl true)))))))
end L3.Lw

end
section
set_option autoImplicit false
namespace L3.Lw
open L3
/-! ### the law's tape -/
def tapeD (c : Nat) (at' left seed salt : Int) : List (W × W) := [(.str [99, 101, 108, 108, 115], .ref c), (.str [97, 116], .int at'), (.str [108, 101, 102, 116], .int left), (.str [115, 101, 101, 100], .int seed), (.str [115, 97, 108, 116], .int salt)]
/-- a tape stands at t, its cells at c -/
structure Tape (G : Gh) (t c : Nat) : Prop where
  ex : ∃ (cells : List Int) (at' left seed salt : Int), G t = some (.dct (tapeD c at' left seed salt)) ∧ G c = some (.lst (cells.map W.int)) ∧ (∀ x ∈ cells, 0 ≤ x) ∧ 0 ≤ at' ∧ 0 ≤ left ∧ 0 ≤ seed ∧ seed < 2147483647 ∧ 0 ≤ salt
theorem Tape.ne {G : Gh} {t c : Nat} (T : Tape G t c) : c ≠ t := by
  obtain ⟨_, _, _, _, _, e1, e2, _⟩ := T.ex
  rintro rfl
  rw [e1] at e2; cases e2
theorem Tape.hasT {G : Gh} {t c : Nat} (T : Tape G t c) : ∃ o, G t = some o := let ⟨_, _, _, _, _, e1, _⟩ := T.ex; ⟨_, e1⟩
theorem Tape.hasC {G : Gh} {t c : Nat} (T : Tape G t c) : ∃ o, G c = some o := let ⟨_, _, _, _, _, _, e1, _⟩ := T.ex; ⟨_, e1⟩
theorem Tape.free {G : Gh} {t c p : Nat} (T : Tape G t c) (h : G p = none) : p ≠ t ∧ p ≠ c := by
  obtain ⟨_, e⟩ := T.hasT
  obtain ⟨_, e'⟩ := T.hasC
  exact ⟨ne_free e h, ne_free e' h⟩
theorem Tape.upd {G : Gh} {t c p : Nat} {o : O} (T : Tape G t c) (h1 : p ≠ t) (h2 : p ≠ c) : Tape (up G p o) t c := by
  obtain ⟨cells, at', left, seed, salt, e1, e2, r⟩ := T.ex
  exact ⟨cells, at', left, seed, salt, (up_ne h1.symm).trans e1, (up_ne h2.symm).trans e2, r⟩
theorem Tape.new {G : Gh} {t c p : Nat} {o : O} (T : Tape G t c) (h : G p = none) : Tape (up G p o) t c := T.upd (T.free h).1 (T.free h).2
theorem Tape.of {G G' : Gh} {t c : Nat} (T : Tape G t c) (h1 : G' t = G t) (h2 : G' c = G c) : Tape G' t c := by
  obtain ⟨cells, at', left, seed, salt, e1, e2, r⟩ := T.ex
  exact ⟨cells, at', left, seed, salt, h1.trans e1, h2.trans e2, r⟩
theorem Tape.le {G G' : Gh} {t c : Nat} (T : Tape G t c) (l : Le G G') : Tape G' t c := by
  obtain ⟨cells, at', left, seed, salt, e1, e2, r⟩ := T.ex
  exact ⟨cells, at', left, seed, salt, l _ _ e1, l _ _ e2, r⟩
/-- _law_take: some number below many; the tape has moved -/
def sp_take : Sp := fun ws G Q _ => match ws with
  | [.ref t, .int many] => ∃ c, Tape G t c ∧ 0 < many ∧ many < 1073741824 ∧ ∀ d o, 0 ≤ d → d < many → Tape (up G t o) t c → Q (.int d) (up G t o)
  | _ => False
theorem mono_take : Mono sp_take := by
  intro ws G Q Q' E E' hq he h
  unfold sp_take at h ⊢
  split at h
  · obtain ⟨c, a, b, d, k⟩ := h
    exact ⟨c, a, b, d, fun x o h0 h1 T => hq _ _ (k x o h0 h1 T)⟩
  · exact h.elim
theorem len_take (ws : List W) (G : Gh) (Q : QV) (E : XQ) (h : sp_take ws G Q E) : ws.length = 2 := by
  unfold sp_take at h
  split at h
  · rfl
  · exact h.elim
theorem at_ints {ns : List Int} {i : Int} (h0 : 0 ≤ i) (h1 : i < ns.length) : ∃ n, n ∈ ns ∧ at_ (ns.map W.int) i = some (.int n) := by
  have hl : i.toNat < ns.length := by omega
  refine ⟨ns[i.toNat], List.getElem_mem hl, ?_⟩
  unfold at_ ixn
  rw [if_pos h0, List.length_map, if_pos hl]
  simp [hl]
theorem vc_take (ws : List W) (G : Gh) (Q : QV) (E : XQ) (fg : Fgt Q E) (h : sp_take ws G Q E) : rd_law_take { nx := fun _ G' => Q .non G', rt := Q, ex := fun _ => E } (startF 4 ws) G := by
  unfold sp_take at h
  split at h
  · rename_i t many
    obtain ⟨c, ⟨cells, at', left, seed, salt, e1, e2, b1, b2, b3, b4, b5, b6⟩, m0, m1, q⟩ := h
    have ne : c ≠ t := by rintro rfl; rw [e1] at e2; cases e2
    have mk : ∀ at2 left2 salt2 : Int, 0 ≤ at2 → 0 ≤ left2 → 0 ≤ salt2 → Tape (up G t (.dct (tapeD c at2 left2 seed salt2))) t c := fun at2 left2 salt2 h1 h2 h3 =>
      ⟨cells, at2, left2, seed, salt2, up_same, (up_ne ne).trans e2, b1, h1, h2, b4, b5, h3⟩
    have fin : ∀ d at2 left2 salt2 : Int, 0 ≤ at2 → 0 ≤ left2 → 0 ≤ salt2 → 0 ≤ d → d < many → Q (.int d) (up G t (.dct (tapeD c at2 left2 seed salt2))) := fun d at2 left2 salt2 h1 h2 h3 h4 h5 => q d _ h4 h5 (mk _ _ _ h1 h2 h3)
    have md : ∀ x : Int, 0 ≤ x % many ∧ x % many < many := fun x => ⟨Int.emod_nonneg _ (by omega), Int.emod_lt_of_pos _ m0⟩
    have hm : ∀ x : Int, 0 ≤ x % 2147483647 ∧ x % 2147483647 < 2147483647 := fun x => ⟨Int.emod_nonneg _ (by omega), Int.emod_lt_of_pos _ (by omega)⟩
    have dv : ∀ x : Int, 0 ≤ x → 0 ≤ x / many := fun x hx => Int.ediv_nonneg hx (by omega)
    have mulr : ∀ i j : Int, 0 ≤ j → j < 4294967296 → mulOk i j := fun i j h0 h1 => .inr ⟨by omega, by omega⟩
    have mixed : ∀ at2 left2 : Int, 0 ≤ at2 → 0 ≤ left2 → mulOk seed 48271 ∧ mulOk (salt + 1) 69621 ∧
        mulOk ((seed * 48271 + (salt + 1) * 69621) % 2147483647) ((seed * 48271 + (salt + 1) * 69621) % 2147483647) ∧ mulOk (salt + 1) 40692 ∧ 0 < many ∧
        Q (.int (((seed * 48271 + (salt + 1) * 69621) % 2147483647 * ((seed * 48271 + (salt + 1) * 69621) % 2147483647) + (salt + 1) * 40692 + 12345) % 2147483399 % many)) (up G t (.dct (tapeD c at2 left2 seed (salt + 1)))) :=
      fun at2 left2 h1 h2 => ⟨mulr _ _ (by omega) (by omega), mulr _ _ (by omega) (by omega), mulr _ _ (hm _).1 (by have := (hm (seed * 48271 + (salt + 1) * 69621)).2; omega), mulr _ _ (by omega) (by omega), m0, fin _ _ _ _ h1 h2 (by omega) (md _).1 (md _).2⟩
    simp [rd_law_take, startF, e1, e2, tapeD, look, keq, putD, has]
    split
    · split
      · rename_i hl
        obtain ⟨n, hn, en⟩ := at_ints b2 hl
        have n0 := b1 n hn
        simp only [en]
        split
        · exact ⟨m0, m0, m1, fin _ _ _ _ (by omega) (dv _ n0) b6 (md _).1 (md _).2⟩
        · exact mixed _ _ (by omega) n0
      · split
        · exact ⟨m0, m1, fin _ _ _ _ b2 (dv _ b3) b6 (md _).1 (md _).2⟩
        · exact mixed _ _ b2 b3
    · split
      · exact ⟨m0, m1, fin _ _ _ _ b2 (dv _ b3) b6 (md _).1 (md _).2⟩
      · exact mixed _ _ b2 b3
  · exact h.elim
/-- _law_tape -/
def scriptW (G : Gh) (x : W) (ns : List Int) : Prop := x = .kl (ns.map W.int) ∨ ∃ a, x = .ref a ∧ G a = some (.rdl (ns.map W.int))
def sp_tape : Sp := fun ws G Q _ => match ws with
  | [x] => ∃ ns : List Int, (scriptW G x ns ∧ ns.length ≤ 63) ∧ ∀ G' t c, Le G G' → G t = none → Tape G' t c → Q (.ref t) G'
  | _ => False
theorem mono_tape : Mono sp_tape := by
  intro ws G Q Q' E E' hq he h
  unfold sp_tape at h ⊢
  split at h
  · obtain ⟨ns, a, k⟩ := h
    exact ⟨ns, a, fun G' t c l f T => hq _ _ (k G' t c l f T)⟩
  · exact h.elim
theorem len_tape (ws : List W) (G : Gh) (Q : QV) (E : XQ) (h : sp_tape ws G Q E) : ws.length = 1 := by
  unfold sp_tape at h
  split at h
  · rfl
  · exact h.elim
theorem vc_tape (ws : List W) (G : Gh) (Q : QV) (E : XQ) (fg : Fgt Q E) (h : sp_tape ws G Q E) : rd_law_tape { nx := fun _ G' => Q .non G', rt := Q, ex := fun _ => E } (startF 4 ws) G := by
  unfold sp_tape at h
  split at h
  · rename_i x
    obtain ⟨ns, ⟨e1, hl⟩, q⟩ := h
    -- the second loop
    have loop : ∀ (D : Nat) (cells : List Int) (G1 : Gh), G1 D = some (.lst (cells.map W.int)) → ∀ (Dn : Ends) (r : List Int) (seed : Int) (o : Option W), 0 ≤ seed → seed < 2147483647 →
        (∀ (seed' : Int) (o' : Option W), 0 ≤ seed' → seed' < 2147483647 → Dn.nx [some x, some (.ref D), some (.int seed'), o'] G1) →
        forL (items (.ref D)) (cells.map W.int) (gName 3) rd_law_tape_b0 Dn (r.map W.int) [some x, some (.ref D), some (.int seed), o] G1 := by
      intro D cells G1 eD Dn r
      induction r with
      | nil => intro seed o h0 h1 k; exact ⟨by simp [eD], k seed o h0 h1⟩
      | cons n r ih =>
        intro seed o h0 h1 k
        rw [List.map_cons, forL_cons]
        refine ⟨by simp [eD], ?_⟩
        simp only [rd_law_tape_b0, gName, sSet, eOp, eBlt, aCons, aNil, eVar, eC, rMul, rAdd, rMod, bInt, get_succ, get_zero, put_succ, put_zero]
        refine ⟨.inr ⟨by decide, by decide⟩, by decide, ?_⟩
        exact ih _ _ (Int.emod_nonneg _ (by decide)) (Int.emod_lt_of_pos _ (by decide)) k
    simp only [rd_law_tape, startF, sSeq, sSet, eLc, iVal, eVar, wipe_cons, wipe_nil, List.map_cons, List.map_nil, List.cons_append, List.nil_append, List.length_cons, List.length_nil, List.replicate]
    have eI : items x G = some (ns.map W.int) ∧ ∀ D acc, G D = none → items x (up G D (.lst acc)) = some (ns.map W.int) := by
      rcases e1 with rfl | ⟨a, rfl, e1⟩
      · exact ⟨rfl, fun D acc _ => rfl⟩
      · refine ⟨by simp only [items, e1], fun D acc hD => ?_⟩
        simp only [items, up_ne (ne_free' e1 hD), e1]
    simp only [get_zero, del_succ, del_zero]
    refine ⟨by rw [eI.1]; rfl, fun D hD => ?_⟩
    refine ⟨ns.map W.int, eI.2 D [] hD, ?_⟩
    refine lcL_map (G0 := G) (fun w => match w with | .int i => .int i.natAbs | w => w) (fun acc => eI.2 D acc hD) ?_ (ns.map W.int) [] (fun w hw => hw) (by simp; omega) ?_
    · intro w hw acc K hk
      obtain ⟨n, _, rfl⟩ := List.mem_map.mp hw
      simpa using hk
    · have ec : (ns.map W.int).map (fun w => match w with | .int i => W.int i.natAbs | w => w) = (ns.map fun n => (n.natAbs : Int)).map W.int := by
        rw [List.map_map, List.map_map]; rfl
      simp only [List.nil_append, ec, sFor, eC, put_zero, put_succ, iVal, eVar, get_zero, get_succ, items, up_same]
      refine ⟨rfl, _, rfl, ?_⟩
      refine loop D _ _ up_same _ _ 7 _ (by decide) (by decide) fun seed' o' h0 h1 => ?_
      simp [sRet, pairsD, mergeD, putD, has, look, keq]
      intro p hp
      have hpD : p ≠ D := (free_up hp).1
      refine q _ p D ?_ (free_up hp).2 ⟨ns.map fun n => (n.natAbs : Int), 0, 0, seed', 0, up_same, ?_, ?_, by decide, by decide, h0, h1, by decide⟩
      · exact (Le.up hD).trans (Le.up hp)
      · rw [up_ne hpD.symm, up_same, List.map_map]
      · intro x hx
        obtain ⟨n, _, rfl⟩ := List.mem_map.mp hx
        omega
  · exact h.elim

/-! ### the law's comparison, of dicts too -/
/-- plain data, to the depth n -/
def dataN : Nat → W → Bool
  | 0, x => flatW x
  | n + 1, x => flatW x || (match x with | .tup xs => decide (xs.length ≤ SZ) && xs.all (dataN n) | _ => false)
/-- the same data, to the depth n -/
def SameW (G : Gh) : Nat → W → W → Prop
  | 0, x, y => flatW x = true ∧ x = y
  | n + 1, x, y => (flatW x = true ∧ x = y) ∨ (∃ p q kvs kus, x = .ref p ∧ y = .ref q ∧ p ≠ q ∧ G p = some (.dct kvs) ∧ G q = some (.dct kus) ∧ kvs.length = kus.length ∧ (∀ e ∈ kus, key1 e.1 = true ∧ ∃ w, look kvs e.1 = some w ∧ look kus e.1 = some w ∧ dataN n w = true) ∧ ∀ e ∈ kvs, key1 e.1 = true) ∨ (∃ xs ys, x = .tup xs ∧ y = .tup ys ∧ xs.length = ys.length ∧ xs.length ≤ SZ ∧ ∀ (i : Nat) (a b : W), xs[i]? = some a → ys[i]? = some b → SameW G n a b) ∨
      (∃ p q xs ys, x = .ref p ∧ y = .ref q ∧ G p = some (.lst xs) ∧ G q = some (.lst ys) ∧ xs.length = ys.length ∧ xs.length ≤ SZ ∧ ∀ (i : Nat) (a b : W), xs[i]? = some a → ys[i]? = some b → SameW G n a b)
theorem SameW.flat {G : Gh} {n : Nat} {x : W} (h : flatW x = true) : SameW G n x x := by
  cases n with
  | zero => exact ⟨h, rfl⟩
  | succ n => exact .inl ⟨h, rfl⟩
theorem SameW.tup {G : Gh} {n : Nat} {xs : List W} (hz : xs.length ≤ SZ) (h : ∀ x ∈ xs, SameW G n x x) : SameW G (n + 1) (.tup xs) (.tup xs) := by
  refine .inr (.inr (.inl ⟨xs, xs, rfl, rfl, rfl, hz, fun i a b ha hb => ?_⟩))
  rw [ha] at hb
  cases hb
  exact h a (List.mem_of_getElem? ha)
theorem SameW.lst {G : Gh} {n : Nat} {p q : Nat} {xs : List W} (hp : G p = some (.lst xs)) (hq : G q = some (.lst xs)) (hz : xs.length ≤ SZ) (h : ∀ x ∈ xs, SameW G n x x) : SameW G (n + 1) (.ref p) (.ref q) := by
  refine .inr (.inr (.inr ⟨p, q, xs, xs, rfl, rfl, hp, hq, rfl, hz, fun i a b ha hb => ?_⟩))
  rw [ha] at hb
  cases hb
  exact h a (List.mem_of_getElem? ha)
theorem SameW.data {G : Gh} : ∀ {n : Nat} {w : W}, dataN n w = true → SameW G n w w
  | 0, w, h => .flat h
  | n + 1, w, h => by
    unfold dataN at h
    by_cases f : flatW w = true
    · exact .flat f
    · rw [Bool.not_eq_true] at f
      rw [f, Bool.false_or] at h
      split at h
      · rename_i xs
        rw [Bool.and_eq_true, List.all_eq_true] at h
        exact .tup (of_decide_eq_true h.1) fun x hx => SameW.data (h.2 x hx)
      · cases h
/-- _law_is_integer -/
def sp_isint : Sp := fun ws G Q _ => match ws with
  | [.int i] => Q (.bl true) G
  | _ => False
theorem mono_isint : Mono sp_isint := by
  intro ws G Q Q' E E' hq he h
  unfold sp_isint at h ⊢
  split at h
  · exact hq _ _ h
  · exact h.elim
theorem len_isint (ws : List W) (G : Gh) (Q : QV) (E : XQ) (h : sp_isint ws G Q E) : ws.length = 1 := by
  unfold sp_isint at h
  split at h
  · rfl
  · exact h.elim
theorem vc_isint (ws : List W) (G : Gh) (Q : QV) (E : XQ) (fg : Fgt Q E) (h : sp_isint ws G Q E) : rd_law_is_integer { nx := fun _ G' => Q .non G', rt := Q, ex := fun _ => E } (startF 1 ws) G := by
  unfold sp_isint at h
  split at h
  · simpa [rd_law_is_integer, startF, tyN] using h
  · exact h.elim
/-- _law_same, to the depth n -/
def sp_same (n : Nat) : Sp := fun ws G Q _ => match ws with
  | [x, y] => SameW G n x y ∧ Q (.bl true) G
  | _ => False
theorem mono_same (n : Nat) : Mono (sp_same n) := by
  intro ws G Q Q' E E' hq he h
  unfold sp_same at h ⊢
  split at h
  · exact ⟨h.1, hq _ _ h.2⟩
  · exact h.elim
theorem len_same (n : Nat) (ws : List W) (G : Gh) (Q : QV) (E : XQ) (h : sp_same n ws G Q E) : ws.length = 2 := by
  unfold sp_same at h
  split at h
  · rfl
  · exact h.elim
/-- the items of a tuple or a list -/
def seqW (G : Gh) : W → Option (List W)
  | .tup xs => some xs
  | .ref p => match G p with
    | some (.lst xs) => some xs
    | _ => none
  | _ => none
def sp_items (n : Nat) : Sp := fun ws G Q _ => match ws with
  | [x, y] => ∃ xs ys, seqW G x = some xs ∧ seqW G y = some ys ∧ xs.length = ys.length ∧ xs.length ≤ SZ ∧ (∀ (i : Nat) (a b : W), xs[i]? = some a → ys[i]? = some b → SameW G n a b) ∧ Q (.bl true) G
  | _ => False
theorem mono_items (n : Nat) : Mono (sp_items n) := by
  intro ws G Q Q' E E' hq he h
  unfold sp_items at h ⊢
  split at h
  · obtain ⟨xs, ys, a, b, c, d, e, k⟩ := h
    exact ⟨xs, ys, a, b, c, d, e, hq _ _ k⟩
  · exact h.elim
theorem len_items (n : Nat) (ws : List W) (G : Gh) (Q : QV) (E : XQ) (h : sp_items n ws G Q E) : ws.length = 2 := by
  unfold sp_items at h
  split at h
  · rfl
  · exact h.elim
theorem seq_ref {G : Gh} {p : Nat} {xs : List W} (h : seqW G (.ref p) = some xs) : G p = some (.lst xs) := by
  unfold seqW at h
  dsimp only at h
  cases e : G p with
  | none => rw [e] at h; cases h
  | some o =>
    cases o with
    | lst ys => rw [e] at h; cases h; rfl
    | _ => rw [e] at h; cases h
theorem len_seq {G : Gh} {x : W} {xs : List W} {Q : QV} (h : seqW G x = some xs) (q : Q (.int xs.length) G) : bLen [x] G Q := by
  cases x with
  | tup ws => cases h; exact q
  | ref p => simpa [seq_ref h] using q
  | _ => cases h
theorem ix_seq {G : Gh} {x : W} {xs : List W} {i : Nat} {w : W} {Q : QV} (h : seqW G x = some xs) (e : xs[i]? = some w) (q : Q w G) : rIx x (.int (i : Int)) G Q := by
  have ea := at_nat e
  cases x with
  | tup ws => cases h; simpa [ea] using q
  | ref p => simpa [seq_ref h, ea] using q
  | _ => cases h
theorem vc_items (n : Nat) (ws : List W) (G : Gh) (Q : QV) (E : XQ) (fg : Fgt Q E) (h : sp_items n ws G Q E) : rd_law_same_items (sp_same n) { nx := fun _ G' => Q .non G', rt := Q, ex := fun _ => E } (startF 3 ws) G := by
  unfold sp_items at h
  split at h
  · rename_i x y
    obtain ⟨xs, ys, e1, e2, el, hz, hs, k⟩ := h
    simp only [rd_law_same_items, startF, sSeq, sIf, tV, eOp, eBlt, aCons, aNil, eVar, List.map_cons, List.map_nil, List.cons_append, List.nil_append, List.length_cons, List.length_nil, List.replicate, get_zero, get_succ]
    refine len_seq e1 (len_seq e2 ?_)
    simp only [rNe, eqA, el, decide_true, Bool.not_true, Bool.false_eq_true, if_false, sNext, sSeq, sFor, iRng1, aCons, aNil, eBlt, eVar, get_zero, get_succ]
    refine len_seq e2 ?_
    refine ⟨rngOk_nat (by omega), _, rfl, ?_⟩
    refine forL_ind (fun r γ G' => G' = G ∧ (∃ o, γ = [some x, some y, o]) ∧ ∀ w ∈ r, ∃ i : Nat, i < ys.length ∧ w = .int i) (fun r γ G' _ => rfl) ?_ ?_ _ _ _ ⟨rfl, ⟨none, rfl⟩, fun w hw => ?_⟩
    · rintro γ G' ⟨rfl, ⟨o, rfl⟩, _⟩
      simpa using k
    · rintro w r γ G' ⟨rfl, ⟨o, rfl⟩, hm⟩ F hF
      obtain ⟨i, hi, rfl⟩ := hm w (by simp)
      simp only [gName, rd_law_same_items_b0, sIf, tNot, tTru, eCall, aCons, aNil, eOp, eVar, get_zero, get_succ, put_zero, put_succ]
      refine ix_seq e1 (List.getElem?_eq_getElem (by omega)) (ix_seq e2 (List.getElem?_eq_getElem hi) ⟨hs i _ _ (List.getElem?_eq_getElem (by omega)) (List.getElem?_eq_getElem hi), ?_⟩)
      simp only [truth, Bool.not_true, Bool.false_eq_true, if_false, sNext]
      exact hF _ _ ⟨rfl, ⟨_, rfl⟩, fun w hw => hm w (by simp [hw])⟩
    · obtain ⟨i, hi, rfl⟩ := mem_rangeW hw
      exact ⟨i, by simpa using hi, by simp⟩
  · exact h.elim
theorem vc_same0 (ws : List W) (G : Gh) (Q : QV) (E : XQ) (fg : Fgt Q E) (s : Sp) (h : sp_same 0 ws G Q E) (t : Sp) : rd_law_same sp_isint s t { nx := fun _ G' => Q .non G', rt := Q, ex := fun _ => E } (startF 3 ws) G := by
  unfold sp_same at h
  split at h
  · rename_i x y
    obtain ⟨⟨f, rfl⟩, k⟩ := h
    cases x with
    | non => simpa [rd_law_same, startF, tyN] using k
    | bl b => simpa [rd_law_same, startF, tyN, weq] using k
    | int i => simpa [rd_law_same, startF, tyN, sp_isint] using k
    | str l => simpa [rd_law_same, startF, tyN] using k
    | _ => cases f
  · exact h.elim
theorem vc_same (n : Nat) (ws : List W) (G : Gh) (Q : QV) (E : XQ) (fg : Fgt Q E) (h : sp_same (n + 1) ws G Q E) :
    rd_law_same sp_isint (sp_items n) (sp_same n) { nx := fun _ G' => Q .non G', rt := Q, ex := fun _ => E } (startF 3 ws) G := by
  unfold sp_same at h
  split at h
  · rename_i x y
    obtain ⟨hs, k⟩ := h
    rcases hs with ⟨f, rfl⟩ | ⟨p, q, kvs, kus, rfl, rfl, npq, e1, e2, el, hd, hk⟩ | ⟨xs, ys, rfl, rfl, el, hz, hi⟩ | ⟨p, q, xs, ys, rfl, rfl, e1, e2, el, hz, hi⟩
    · exact vc_same0 [x, x] G Q E fg _ (show SameW G 0 x x ∧ _ from ⟨⟨f, rfl⟩, k⟩) _
    · have e3 : up G q (.rdc kus) p = some (.dct kvs) := by rw [up_ne npq]; exact e1
      have e4 : up G p (.rdc kvs) q = some (.dct kus) := by rw [up_ne npq.symm]; exact e2
      simp only [rd_law_same, startF, sSeq, sSet, sRet, sRetN, sIf, sNext, sDrop, sAsg, sAug, sBrk, sCnt, sThrow, sFld, sFldAug, sPutA, sDput, sFor, iVal, iRng1, iRng2, tV, tTru, tAnd, tOr, tNot, eVar, eC, eOp, eUn, eIf, eAnd, eOr, eNot, eCh, eCh3, eCall, eBlt, eMet, eMakeX, eCallV, eFld, asIns, eTup, eLst, eDnewT, eDnew, eBm, tyW, aCons, aNil, aCs, eFS, eFmt, eJs_nil, eJs_cons, eSl, oNo, oPart, eDget1, eDget2, eDpop1, eDpop2, eDsetd, isDW, isDM, popK, popD, dictOf, rAt, rIx, rDget, rInD, rNotInD, rInB, rIn, rNotIn, rInA, rEq, rNe, eqA, rLt, rLe, rGt, rGe, rIs, rIsNot, rIsL, rIsLN, rAdd, rSub, rMod, rNeg, rIadd, rSl, isN_non, isN_bl, isN_int, isN_str, isN_ref, isN_tup, gName, gTup, gCons, gNil, truth, bLen, bAbs, bMin, bMax, bInt, bSum, bTuple, bList, bIsi, clsN, mAppend, mPop, mExtend, mReplaceL, rEqN, rNeN, rNeM, rEqE, rNeE, rInS2, eRev, get_zero, get_succ, put_zero, put_succ, del_zero, del_succ, nthW_zero, nthW_succ, setF_nil, setF_zero, setF_succ, Option.map_some, List.getElem?_cons_zero, List.getElem?_cons_succ, List.map_cons, List.map_nil, List.cons_append, List.nil_append, List.length_cons, List.length_nil, List.replicate, Bool.not_true, Bool.not_false, Bool.false_eq_true, if_false, if_true, e1, e2, el, decide_true]
      iterate 5
        refine ⟨by decide, ?_⟩
        rw [if_neg (by decide)]
      refine ⟨by decide, ?_⟩
      rw [if_neg (by decide)]
      refine ⟨q, kus, .inl ⟨e2, ?_⟩⟩
      simp only [sFor, iKeys, eVar, get_succ, get_zero, up_same]
      refine ⟨_, by simp only [kItems, up_same]; rfl, ?_⟩
      refine forX_ind kus (·.1) (fun i γ G' => G' = up G q (.rdc kus) ∧ ∃ o, γ = [some (.ref p), some (.ref q), o]) (fun i γ G' _ h => by rw [h.1]; simp only [kItems, up_same]) ?_ ?_ _ _ ⟨rfl, _, rfl⟩
      · rintro γ G' ⟨rfl, o, rfl⟩
        simp only [lockD, up_up, up_same, true_and, up_self e2]
        refine ⟨p, kvs, .inl ⟨e1, ?_⟩⟩
        simp only [sFor, iKeys, eVar, get_succ, get_zero, up_same]
        refine ⟨_, by simp only [kItems, up_same]; rfl, ?_⟩
        refine forX_ind kvs (·.1) (fun i γ G' => G' = up G p (.rdc kvs) ∧ ∃ o, γ = [some (.ref p), some (.ref q), o]) (fun i γ G' _ h => by rw [h.1]; simp only [kItems, up_same]) ?_ ?_ _ _ ⟨rfl, _, rfl⟩
        · rintro γ G' ⟨rfl, o, rfl⟩
          simp only [lockD, up_up, up_same, true_and, up_self e1]
          simpa using k
        · rintro i x γ G' hx ⟨rfl, o, rfl⟩ F hF
          have hk1 := hk x (List.mem_of_getElem? hx)
          have c : ∃ c, clsN x.1 (up G p (.rdc kvs)) = some c ∧ isSub c "bool" = false := by
            cases h : x.1 <;> rw [h] at hk1 <;> first | exact ⟨_, rfl, by decide⟩ | cases hk1
          obtain ⟨c, c1, c2⟩ := c
          simp only [gName, rd_law_same_b1, sIf, tTru, eBlt, bIsi, aCons, aNil, eVar, eC, get_zero, get_succ, put_zero, put_succ, c1, c2, truth]
          refine ⟨by decide, ?_⟩
          simp only [Bool.false_eq_true, if_false, sNext]
          exact hF _ _ ⟨rfl, _, rfl⟩
      · rintro i x γ G' hx ⟨rfl, o, rfl⟩ F hF
        obtain ⟨k1, w, w1, w2, w3⟩ := hd x (List.mem_of_getElem? hx)
        have h1 : has kvs x.1 = true := by unfold has; rw [w1]; rfl
        simp only [gName, rd_law_same_b0, sIf, tOr, tV, tNot, tTru, eCall, eOp, rNotInD, rInB, rAt, aCons, aNil, eVar, get_zero, get_succ, put_zero, put_succ, e3, up_same, k1, true_and, h1, w1, w2, Bool.not_true, Bool.false_eq_true, if_false]
        refine ⟨SameW.data w3, ?_⟩
        simp only [truth, Bool.not_true, Bool.false_eq_true, if_false, sNext]
        exact hF _ _ ⟨rfl, _, rfl⟩
    · simp [rd_law_same, startF, tyN, sp_items]
      exact ⟨xs, rfl, ys, rfl, el, hz, hi, k⟩
    · have s1 : seqW G (.ref p) = some xs := by simp [seqW, e1]
      have s2 : seqW G (.ref q) = some ys := by simp [seqW, e2]
      simp [rd_law_same, startF, tyN, sp_items, e1, e2]
      exact ⟨xs, s1, ys, s2, el, hz, hi, k⟩
  · exact h.elim

/-! ### texts that the law draws -/
/-- a sign that may stand in a text -/
def chb (c : Nat) : Bool := c == 10 || (decide (32 ≤ c) && decide (c < 127) && !(c == 37))
def OkT (l : List Nat) : Prop := ∀ c ∈ l, chb c = true
theorem OkT.nil : OkT [] := fun _ h => nomatch h
theorem OkT.append {l m : List Nat} (a : OkT l) (b : OkT m) : OkT (l ++ m) := fun c h => (List.mem_append.mp h).elim (a c) (b c)
theorem OkT.lt {l : List Nat} (h : OkT l) {c : Nat} (hc : c ∈ l) : c < 128 := by
  have := h c hc
  unfold chb at this
  simp at this
  omega
theorem okT_all {l : List Nat} (h : l.all chb = true) : OkT l := fun c hc => List.all_eq_true.mp h c hc
theorem joinN_flat : ∀ ps : List (List Nat), joinN [] ps = ps.flatten
  | [] => rfl
  | [p] => by simp [joinN]
  | p :: q :: r => by rw [joinN, joinN_flat (q :: r)]; simp
theorem OkT.flat {ps : List (List Nat)} (h : ∀ p ∈ ps, OkT p) : OkT ps.flatten := fun c hc => by
  obtain ⟨p, hp, hc⟩ := List.mem_flatten.mp hc
  exact h p hp c hc
theorem flat_len {ps : List (List Nat)} {n : Nat} (h : ∀ p ∈ ps, p.length ≤ n) : ps.flatten.length ≤ n * ps.length := by
  induction ps with
  | nil => simp
  | cons p ps ih =>
    rw [List.flatten_cons, List.length_append, List.length_cons, Nat.mul_add]
    have := h p (by simp)
    have := ih fun q hq => h q (by simp [hq])
    omega
theorem sum_len {ps : List (List Nat)} {n : Nat} (h : ∀ p ∈ ps, p.length ≤ n) : (ps.map (·.length)).sum ≤ n * ps.length := by
  rw [← List.length_flatten]
  exact flat_len h
/-- what stood at the beginning, but for the tape, stands -/
def KeepBut (t : Nat) (G G' : Gh) : Prop := ∀ b o, b ≠ t → G b = some o → G' b = some o
theorem KeepBut.refl {t : Nat} {G : Gh} : KeepBut t G G := fun _ _ _ h => h
theorem KeepBut.trans {t : Nat} {G G1 G2 : Gh} (a : KeepBut t G G1) (b : KeepBut t G1 G2) : KeepBut t G G2 := fun c o n h => b c o n (a c o n h)
theorem KeepBut.tape {t : Nat} {G : Gh} {o : O} : KeepBut t G (up G t o) := fun b u n h => (up_ne n).trans h
theorem KeepBut.new {t p : Nat} {G : Gh} {o : O} (h : G p = none) : KeepBut t G (up G p o) := fun b u _ e => Le.up h b u e
/-- an object that was not there at the beginning is written -/
theorem KeepBut.upd {t p : Nat} {G G' : Gh} {o : O} (a : KeepBut t G G') (h : G p = none) : KeepBut t G (up G' p o) := fun b u n e => by
  rw [up_ne (ne_free' e h)]
  exact a b u n e
theorem KeepBut.le {t : Nat} {G G1 G2 : Gh} (a : KeepBut t G G1) (l : Le G1 G2) : KeepBut t G G2 := fun b u n e => l b u (a b u n e)
theorem tape_fin {G G' : Gh} {t c : Nat} {Q : QV} {E : XQ} {w : W} (T : Tape G t c) (T' : Tape G' t c) (kp : KeepBut t G G') (fg : Fgt Q E) (k : ∀ o, Tape (up G t o) t c → Q w (up G t o)) : Q w G' := by
  obtain ⟨o, e⟩ := T'.hasT
  obtain ⟨oc, ec⟩ := T.hasC
  have l : Le (up G t o) G' := fun b u h => by
    by_cases hb : b = t
    · subst hb; rw [up_same] at h; cases h; exact e
    · rw [up_ne hb] at h; exact kp b u hb h
  refine fg.rt w _ _ l (k o (T'.of (up_same.trans e.symm) ?_))
  rw [up_ne T.ne, kp c oc T.ne ec]
  exact ec
/-- a def that draws: what it hands back bears P -/
def sp_draw (P : W → Prop) : Sp := fun ws G Q _ => match ws with
  | [.ref t] => ∃ c, Tape G t c ∧ ∀ w o, P w → Tape (up G t o) t c → Q w (up G t o)
  | _ => False
theorem mono_draw (P : W → Prop) : Mono (sp_draw P) := by
  intro ws G Q Q' E E' hq he h
  unfold sp_draw at h ⊢
  split at h
  · obtain ⟨c, T, k⟩ := h
    exact ⟨c, T, fun w o p T => hq _ _ (k w o p T)⟩
  · exact h.elim
theorem len_draw (P : W → Prop) (ws : List W) (G : Gh) (Q : QV) (E : XQ) (h : sp_draw P ws G Q E) : ws.length = 1 := by
  unfold sp_draw at h
  split at h
  · rfl
  · exact h.elim
/-- .. with a number -/
def sp_draw1 (ok : Int → Prop) (P : Int → W → Prop) : Sp := fun ws G Q _ => match ws with
  | [.ref t, .int n] => ∃ c, Tape G t c ∧ ok n ∧ ∀ w o, P n w → Tape (up G t o) t c → Q w (up G t o)
  | _ => False
theorem mono_draw1 (ok : Int → Prop) (P : Int → W → Prop) : Mono (sp_draw1 ok P) := by
  intro ws G Q Q' E E' hq he h
  unfold sp_draw1 at h ⊢
  split at h
  · obtain ⟨c, T, a, k⟩ := h
    exact ⟨c, T, a, fun w o p T => hq _ _ (k w o p T)⟩
  · exact h.elim
theorem len_draw1 (ok : Int → Prop) (P : Int → W → Prop) (ws : List W) (G : Gh) (Q : QV) (E : XQ) (h : sp_draw1 ok P ws G Q E) : ws.length = 2 := by
  unfold sp_draw1 at h
  split at h
  · rfl
  · exact h.elim

/-- a law: whatever the script, it answers True -/
def sp_law : Sp := fun ws G Q _ => match ws with
  | [x] => ∃ ns : List Int, (scriptW G x ns ∧ ns.length ≤ 63) ∧ ∀ G', Q (.bl true) G'
  | _ => False
theorem mono_law : Mono sp_law := by
  intro ws G Q Q' E E' hq he h
  unfold sp_law at h ⊢
  split at h
  · obtain ⟨ns, a, k⟩ := h
    exact ⟨ns, a, fun G' => hq _ _ (k G')⟩
  · exact h.elim
theorem len_law (ws : List W) (G : Gh) (Q : QV) (E : XQ) (h : sp_law ws G Q E) : ws.length = 1 := by
  unfold sp_law at h
  split at h
  · rfl
  · exact h.elim

/-! ### tokens -/
def isLetB (c : Nat) : Bool := (decide (97 ≤ c) && decide (c ≤ 122)) || (decide (65 ≤ c) && decide (c ≤ 90))
def isDigB (c : Nat) : Bool := decide (48 ≤ c) && decide (c ≤ 57)
def isNamB (c : Nat) : Bool := isLetB c || isDigB c || decide (c = 95)
def lettersL : List Nat := [97, 98, 99, 100, 101, 102, 103, 104, 105, 106, 107, 108, 109, 110, 111, 112, 113, 114, 115, 116, 117, 118, 119, 120, 121, 122, 65, 66, 67, 68, 69, 70, 71, 72, 73, 74, 75, 76, 77, 78, 79, 80, 81, 82, 83, 84, 85, 86, 87, 88, 89, 90]
def digitsL : List Nat := [48, 49, 50, 51, 52, 53, 54, 55, 56, 57]
def signsL : List Nat := [40, 41, 91, 93, 44, 58, 46, 61, 60, 43, 45, 42, 47]
theorem below_all (l : List Nat) (p : Nat → Bool) (h : ∀ c, c < 128 → decide (c ∈ l) = p c) (h1 : ∀ c ∈ l, c < 128) (h2 : ∀ c, 128 ≤ c → p c = false) (c : Nat) : decide (c ∈ l) = p c := by
  by_cases hc : c < 128
  · exact h c hc
  · rw [h2 c (by omega)]
    exact decide_eq_false fun z => hc (h1 c z)
theorem in_letters (c : Nat) : decide (c ∈ lettersL) = isLetB c := below_all _ _ (by decide) (by decide) (fun c h => by unfold isLetB; simp; omega) c
theorem in_digits (c : Nat) : decide (c ∈ digitsL) = isDigB c := below_all _ _ (by decide) (by decide) (fun c h => by unfold isDigB; simp; omega) c
theorem in_names (c : Nat) : decide (c ∈ lettersL ++ digitsL ++ [95]) = isNamB c := below_all _ _ (by decide) (by decide) (fun c h => by unfold isNamB isLetB isDigB; simp; omega) c
theorem lt_one (a b : Nat) : decide ([a] < [b]) = decide (a < b) := by
  by_cases h : a < b
  · rw [decide_eq_true h, decide_eq_true]
    exact List.Lex.rel h
  · rw [decide_eq_false h, decide_eq_false]
    intro z
    cases z with
    | rel z => exact h z
    | cons z => cases z
/-- where the run ends that begins at i -/
def runE (p : Nat → Bool) (s : List Nat) (i : Nat) : Nat := i + ((s.drop i).takeWhile p).length
theorem runE_stop {p : Nat → Bool} {s : List Nat} {i : Nat} (h : ∀ c, s[i]? = some c → p c = false) : runE p s i = i := by
  unfold runE
  cases e : s.drop i with
  | nil => rfl
  | cons c r =>
    have hc : s[i]? = some c := by
      have := congrArg (fun l => l[0]?) e
      simpa using this
    rw [List.takeWhile_cons, if_neg (by rw [h c hc]; decide)]; rfl
theorem runE_step {p : Nat → Bool} {s : List Nat} {i c : Nat} (h : s[i]? = some c) (hp : p c = true) : runE p s i = runE p s (i + 1) := by
  obtain ⟨hi, rfl⟩ := List.getElem?_eq_some_iff.mp h
  unfold runE
  rw [List.drop_eq_getElem_cons hi, List.takeWhile_cons, if_pos hp, List.length_cons]
  omega
theorem runE_le {p : Nat → Bool} {s : List Nat} {i : Nat} (h : i ≤ s.length) : i ≤ runE p s i ∧ runE p s i ≤ s.length := by
  unfold runE
  have h1 : ((s.drop i).takeWhile p).length ≤ (s.drop i).length := List.Sublist.length_le (List.takeWhile_sublist p)
  rw [List.length_drop] at h1
  omega
def wordsL : List (List Nat) := [[105, 109, 112, 111, 114, 116], [100, 97, 116, 97], [116, 114, 97, 105, 116], [119, 105, 116, 104], [105, 109, 112, 108], [102, 111, 114], [100, 101, 102], [108, 101, 116], [105, 110], [105, 102], [116, 104, 101, 110], [101, 108, 115, 101], [108, 111, 111, 112], [116, 105, 109, 101, 115], [100, 111], [110, 111, 116], [97, 110, 100], [111, 114], [84, 114, 117, 101], [70, 97, 108, 115, 101]]
def kWord : List Nat := [119, 111, 114, 100]
def kName : List Nat := [110, 97, 109, 101]
def kNumber : List Nat := [110, 117, 109, 98, 101, 114]
def kSign : List Nat := [115, 105, 103, 110]
def kWrong : List Nat := [119, 114, 111, 110, 103]
def isWord (l : List Nat) : Bool := (wordsL.map W.str).any fun w => weq w (.str l)
/-- the token that begins at i with the sign c: its sort and its end -/
def tokE (s : List Nat) (i c : Nat) : List Nat × Nat :=
  if isLetB c = true then (if isWord (cut s (some (i : Int)) (some (runE isNamB s i : Nat))) = true then (kWord, runE isNamB s i) else (kName, runE isNamB s i))
  else if isDigB c = true then (kNumber, runE isDigB s i)
  else if cut s (some (i : Int)) (some ((i : Int) + 2)) = [61, 61] then (kSign, i + 2)
  else if c ∈ signsL then (kSign, i + 1) else (kWrong, i + 1)
def tokW (s : List Nat) (i c : Nat) : W := .tup [.str (tokE s i c).1, .int (i : Nat), .int ((tokE s i c).2 : Nat)]
theorem tok_gt {s : List Nat} {i c : Nat} (h : s[i]? = some c) : i < (tokE s i c).2 := by
  have hi := (List.getElem?_eq_some_iff.mp h).1
  unfold tokE
  split
  · rename_i hl
    have e := runE_step (p := isNamB) h (by unfold isNamB; rw [hl]; rfl)
    have := (runE_le (p := isNamB) (s := s) (i := i + 1) (by omega)).1
    split <;> (simp only; omega)
  · split
    · rename_i hd
      have e := runE_step (p := isDigB) h hd
      have := (runE_le (p := isDigB) (s := s) (i := i + 1) (by omega)).1
      simp only; omega
    · split
      · simp only; omega
      · split <;> (simp only; omega)
/-- the next newline from i on, or the end -/
def NL (s : List Nat) (i k : Nat) : Prop := i ≤ k ∧ (∀ v, i ≤ v → v < k → s[v]? ≠ some 10) ∧ (s[k]? = some 10 ∨ k = s.length)
theorem nl_ex (s : List Nat) : ∀ (m i : Nat), s.length = i + m → ∃ k, NL s i k ∧ k ≤ s.length := by
  intro m
  induction m with
  | zero => intro i h; exact ⟨i, ⟨Nat.le_refl _, fun v h1 h2 => by omega, .inr (by omega)⟩, by omega⟩
  | succ m ih =>
    intro i h
    by_cases h10 : s[i]? = some 10
    · exact ⟨i, ⟨Nat.le_refl _, fun v h1 h2 => by omega, .inl h10⟩, by omega⟩
    · obtain ⟨k, ⟨h1, h2, h3⟩, h4⟩ := ih (i + 1) (by omega)
      refine ⟨k, ⟨by omega, fun v hv hk => ?_, h3⟩, h4⟩
      by_cases e : v = i
      · rw [e]; exact h10
      · exact h2 v (by omega) hk
theorem nl_step {s : List Nat} {i k : Nat} (h : NL s i k) (hi : i < s.length) (h10 : s[i]? ≠ some 10) : NL s (i + 1) k := by
  obtain ⟨h1, h2, h3⟩ := h
  refine ⟨?_, fun v hv hk => h2 v (by omega) hk, h3⟩
  by_cases e : i = k
  · subst e
    rcases h3 with h | h
    · exact absurd h h10
    · omega
  · omega
/-- the tokens from i on -/
inductive Toks (s : List Nat) : Nat → List W → Prop
  | done {i : Nat} (h : s.length ≤ i) : Toks s i []
  | skip {i c : Nat} {l : List W} (h : s[i]? = some c) (hc : c = 32 ∨ c = 10) (r : Toks s (i + 1) l) : Toks s i l
  | cmt {i k : Nat} {l : List W} (h : s[i]? = some 35) (n : NL s i k) (hk : k ≤ s.length) (r : Toks s k l) : Toks s i l
  | tok {i c : Nat} {l : List W} (h : s[i]? = some c) (h1 : c ≠ 32) (h2 : c ≠ 10) (h3 : c ≠ 35) (r : Toks s (tokE s i c).2 l) : Toks s i (tokW s i c :: l)
theorem toks_ex (s : List Nat) : ∀ (m i : Nat), s.length ≤ i + m → ∃ l, Toks s i l := by
  intro m
  induction m with
  | zero => intro i h; exact ⟨[], .done (by omega)⟩
  | succ m ih =>
    intro i h
    by_cases hi : s.length ≤ i
    · exact ⟨[], .done hi⟩
    · have hc := List.getElem?_eq_getElem (l := s) (i := i) (by omega)
      generalize s[i] = c at hc
      by_cases h32 : c = 32 ∨ c = 10
      · obtain ⟨l, hl⟩ := ih (i + 1) (by omega)
        exact ⟨l, .skip hc h32 hl⟩
      · by_cases h35 : c = 35
        · subst h35
          obtain ⟨k, hk, hk2⟩ := nl_ex s (s.length - i) i (by omega)
          have h1 := nl_step hk (by omega) (by rw [hc]; decide)
          obtain ⟨l, hl⟩ := ih k (by have := h1.1; omega)
          exact ⟨l, .cmt hc hk hk2 hl⟩
        · have hg := tok_gt hc
          obtain ⟨l, hl⟩ := ih (tokE s i c).2 (by omega)
          exact ⟨_, .tok hc (fun z => h32 (.inl z)) (fun z => h32 (.inr z)) h35 hl⟩
theorem tok_okD (s : List Nat) (i c : Nat) : okD DP (tokW s i c) = true := by
  have h : (tokE s i c).1 ∈ [kWord, kName, kNumber, kSign, kWrong] := by
    unfold tokE
    split
    · split <;> simp
    · split
      · simp
      · split
        · simp
        · split <;> simp
  have h2 : ∀ x ∈ [kWord, kName, kNumber, kSign, kWrong], (x.all fun c => decide (c < 1114112)) = true := by decide
  unfold tokW DP
  rw [okD_tup]
  simp [okD_str]
  simpa using h2 _ h
theorem toks_okD {s : List Nat} {i : Nat} {l : List W} (h : Toks s i l) : l.all (okD DP) = true := by
  induction h with
  | done => rfl
  | skip _ _ _ ih => exact ih
  | cmt _ _ _ _ ih => exact ih
  | tok _ _ _ _ _ ih => rw [List.all_cons, tok_okD, ih]; rfl
theorem toks_len {s : List Nat} {i : Nat} {l : List W} (h : Toks s i l) : l.length ≤ s.length - i := by
  induction h with
  | done => simp
  | skip h _ _ ih => omega
  | cmt h n hk r ih => have := n.1; omega
  | tok h h1 h2 h3 r ih =>
    have := tok_gt h
    have := (List.getElem?_eq_some_iff.mp h).1
    rw [List.length_cons]; omega
theorem toks_mem {s : List Nat} {i : Nat} {l : List W} (h : Toks s i l) : ∀ x ∈ l, ∃ i c, x = tokW s i c := by
  induction h with
  | done => exact fun x hx => nomatch hx
  | skip _ _ _ ih => exact ih
  | cmt _ _ _ _ ih => exact ih
  | tok _ _ _ _ _ ih =>
    intro x hx
    rcases List.mem_cons.mp hx with rfl | h
    · exact ⟨_, _, rfl⟩
    · exact ih x h

/-- run_end -/
def sp_run : Sp := fun ws G Q _ => match ws with
  | [.str s, .int i, .str al] => s.length ≤ SZ ∧ 0 ≤ i ∧ i ≤ s.length ∧ Q (.int (runE (fun c => decide (c ∈ al)) s i.toNat : Nat)) G
  | _ => False
theorem mono_run : Mono sp_run := by
  intro ws G Q Q' E E' hq he h
  unfold sp_run at h ⊢
  split at h
  · exact ⟨h.1, h.2.1, h.2.2.1, hq _ _ h.2.2.2⟩
  · exact h.elim
theorem len_run (ws : List W) (G : Gh) (Q : QV) (E : XQ) (h : sp_run ws G Q E) : ws.length = 3 := by
  unfold sp_run at h
  split at h
  · rfl
  · exact h.elim
theorem vc_run (ws : List W) (G : Gh) (Q : QV) (E : XQ) (fg : Fgt Q E) (h : sp_run ws G Q E) : rd_run_end { nx := fun _ G' => Q .non G', rt := Q, ex := fun _ => E } (startF 4 ws) G := by
  unfold sp_run at h
  split at h
  · rename_i s i al
    obtain ⟨hz, h0, h1, k⟩ := h
    obtain ⟨i, rfl⟩ := Int.eq_ofNat_of_zero_le h0
    rw [Int.toNat_natCast] at k
    simp only [rd_run_end, startF, sSeq, sSet, sRet, eVar, sWhile, List.map_cons, List.map_nil, List.cons_append, List.nil_append, List.length_cons, List.length_nil, List.replicate, get_zero, get_succ, put_zero, put_succ]
    refine ⟨s.length - i + 1, ?_⟩
    refine whileN_ind (fun n γ K => K = G ∧ ∃ e : Nat, γ = [some (.str s), some (.int (i : Nat)), some (.str al), some (.int (e : Nat))] ∧ e ≤ s.length ∧ s.length ≤ e + n ∧ runE (fun c => decide (c ∈ al)) s e = runE (fun c => decide (c ∈ al)) s i) ?_ _ _ _ ⟨rfl, i, rfl, by omega, by omega, rfl⟩
    rintro n γ K ⟨rfl, e, rfl, he, hn, hr⟩ F hF
    simp only [rd_run_end_c0, tAnd, tV, eOp, eVar, eBlt, bLen, aCons, aNil, rLt, get_zero, get_succ]
    refine ⟨hz, ?_⟩
    by_cases hl : e < s.length
    · rw [if_pos (by simpa using hl)]
      simp only [rAt, at_nat (List.getElem?_eq_getElem hl), rInD, rInB]
      refine ⟨hz, ?_⟩
      cases hm : decide (s[e] ∈ al) with
      | true =>
        rw [if_pos rfl]
        simp only [rd_run_end_b1, sAug, eC, rIadd, get_zero, get_succ, put_zero, put_succ]
        refine hF (n - 1) (by omega) _ _ ⟨rfl, e + 1, rfl, by omega, by omega, ?_⟩
        rw [← hr]
        exact (runE_step (List.getElem?_eq_getElem hl) hm).symm
      | false =>
        rw [if_neg (by decide)]
        have : runE (fun c => decide (c ∈ al)) s e = e := runE_stop fun c hc => by
          rw [List.getElem?_eq_getElem hl] at hc; cases hc; exact hm
        rw [← hr, this] at k
        exact k
    · rw [if_neg (by simpa using hl), if_neg (by decide)]
      have : runE (fun c => decide (c ∈ al)) s e = e := runE_stop fun c hc => by
        rw [List.getElem?_eq_none (by omega)] at hc; cases hc
      rw [← hr, this] at k
      exact k
  · exact h.elim
def okS (s : List Nat) : Prop := s.length ≤ 100000 ∧ ∀ x ∈ s, x < 1114112
/-- token_at, _law_token -/
def sp_tok : Sp := fun ws G Q _ => match ws with
  | [.str s, .int i] => okS s ∧ 0 ≤ i ∧ ∃ c, s[i.toNat]? = some c ∧ Q (tokW s i.toNat c) G
  | _ => False
theorem mono_tok : Mono sp_tok := by
  intro ws G Q Q' E E' hq he h
  unfold sp_tok at h ⊢
  split at h
  · obtain ⟨a, b, c, d, k⟩ := h
    exact ⟨a, b, c, d, hq _ _ k⟩
  · exact h.elim
theorem len_tok (ws : List W) (G : Gh) (Q : QV) (E : XQ) (h : sp_tok ws G Q E) : ws.length = 2 := by
  unfold sp_tok at h
  split at h
  · rfl
  · exact h.elim
theorem words_ok : (wordsL.map W.str).all flatW = true ∧ (wordsL.map W.str).all (okD DP) = true := by decide
theorem fun_letters : (fun c => decide (c ∈ lettersL)) = isLetB := funext in_letters
theorem fun_digits : (fun c => decide (c ∈ digitsL)) = isDigB := funext in_digits
theorem fun_names : (fun c => decide (c ∈ lettersL ++ digitsL ++ [95])) = isNamB := funext in_names
theorem vc_tok (ws : List W) (G : Gh) (Q : QV) (E : XQ) (fg : Fgt Q E) (h : sp_tok ws G Q E) : rd_token_at sp_run { nx := fun _ G' => Q .non G', rt := Q, ex := fun _ => E } (startF 4 ws) G := by
  unfold sp_tok at h
  split at h
  · rename_i s i
    obtain ⟨hs, h0, c, hc, k⟩ := h
    have hs1 := hs.1
    obtain ⟨i, rfl⟩ := Int.eq_ofNat_of_zero_le h0
    rw [Int.toNat_natCast] at hc k
    have hz : s.length ≤ SZ := by simp only [SZ]; omega
    have hi := (List.getElem?_eq_some_iff.mp hc).1
    have e1 : c_LETTERS = .str lettersL := rfl
    have e2 : c_NAME_CHARACTERS = .str (lettersL ++ digitsL ++ [95]) := rfl
    have e3 : c_DIGITS = .str digitsL := rfl
    have e4 : c_SIGNS = .str signsL := rfl
    have e5 : c_WORDS = .ktp (wordsL.map W.str) := rfl
    unfold tokW tokE at k
    simp only [rd_token_at, startF, sSeq, sSet, sRet, sIf, tV, eVar, eC, eOp, eCall, eTup, eSl, oPart, aCons, aNil, e1, e2, e3, e4, e5, rAt, at_nat hc, rInD, rInB, List.map_cons, List.map_nil, List.cons_append, List.nil_append, List.length_cons, List.length_nil, List.replicate, get_zero, get_succ, put_zero, put_succ]
    refine ⟨hz, ?_⟩
    rw [in_letters]
    by_cases hl : isLetB c = true
    · rw [if_pos hl] at k ⊢
      simp only [sp_run, Int.toNat_natCast, fun_names]
      refine ⟨hz, by omega, by omega, ?_⟩
      simp only [rSl, flatW, words_ok.1, words_ok.2]
      refine ⟨hz, ⟨trivial, trivial⟩, ?_⟩
      change (if isWord (cut s (some (i : Int)) (some (runE isNamB s i : Nat))) = true then _ else _)
      split at k
      · rename_i hw
        rw [if_pos hw]
        exact ⟨show 3 ≤ SZ by decide, k⟩
      · rename_i hw
        rw [if_neg hw]
        exact ⟨show 3 ≤ SZ by decide, k⟩
    · rw [if_neg hl] at k ⊢
      simp only [sNext, sSeq, sIf, tV, eOp, eVar, eC, rInD, rInB, sRet, eTup, eCall, aCons, aNil, get_zero, get_succ]
      rw [in_digits]
      by_cases hd : isDigB c = true
      · rw [if_pos hd] at k ⊢
        simp only [sp_run, Int.toNat_natCast, fun_digits]
        exact ⟨hz, by omega, by omega, show 3 ≤ SZ by decide, k⟩
      · rw [if_neg hd] at k ⊢
        simp only [sNext, sSeq, sIf, tV, eOp, eVar, eC, eSl, oPart, rAdd, rSl, rEq, eqA, rInD, rInB, sRet, eTup, aCons, aNil, get_zero, get_succ]
        refine ⟨hz, ?_⟩
        by_cases heq : cut s (some (i : Int)) (some ((i : Int) + 2)) = [61, 61]
        · rw [if_pos heq] at k
          rw [if_pos (by simpa using heq)]
          exact ⟨show 3 ≤ SZ by decide, k⟩
        · rw [if_neg heq] at k
          rw [if_neg (by simpa using heq)]
          by_cases hsg : c ∈ signsL
          · rw [if_pos hsg] at k
            rw [if_pos (by simpa using hsg)]
            exact ⟨show 3 ≤ SZ by decide, k⟩
          · rw [if_neg hsg] at k
            rw [if_neg (by simpa using hsg)]
            exact ⟨show 3 ≤ SZ by decide, k⟩
  · exact h.elim
/-- tokens_between 0 to the end, tokens, _law_tokens -/
def sp_between : Sp := fun ws G Q _ => match ws with
  | [.str s, .int i, .int e] => okS s ∧ 0 ≤ i ∧ e = s.length ∧ ∃ L, Toks s i.toNat L ∧ ∀ G' p, Le G G' → G' p = some (.lst L) → Q (.ref p) G'
  | _ => False
theorem mono_between : Mono sp_between := by
  intro ws G Q Q' E E' hq he h
  unfold sp_between at h ⊢
  split at h
  · obtain ⟨a, b, c, L, d, k⟩ := h
    exact ⟨a, b, c, L, d, fun G' p l e => hq _ _ (k G' p l e)⟩
  · exact h.elim
theorem len_between (ws : List W) (G : Gh) (Q : QV) (E : XQ) (h : sp_between ws G Q E) : ws.length = 3 := by
  unfold sp_between at h
  split at h
  · rfl
  · exact h.elim
theorem fnd_NL {s : List Nat} {i k : Nat} {r : Int} (h : fndS s 10 i r) (n : NL s i k) (hk : k ≤ s.length) : (if r < 0 then (s.length : Int) else r) = (k : Int) := by
  obtain ⟨n1, n2, n3⟩ := n
  rcases h with ⟨rfl, h⟩ | ⟨k', rfl, h1, h2, h3⟩
  · rw [if_pos (by omega)]
    rcases n3 with n3 | n3
    · exact absurd n3 (h k n1)
    · omega
  · rw [if_neg (by omega)]
    have hk' := (List.getElem?_eq_some_iff.mp h2).1
    have : ¬ k' < k := fun z => n2 k' h1 z h2
    have : ¬ k < k' := fun z => by
      rcases n3 with n3 | n3
      · exact h3 k n1 z n3
      · omega
    omega
theorem vc_between (ws : List W) (G : Gh) (Q : QV) (E : XQ) (fg : Fgt Q E) (h : sp_between ws G Q E) : rd_tokens_between sp_tok { nx := fun _ G' => Q .non G', rt := Q, ex := fun _ => E } (startF 7 ws) G := by
  unfold sp_between at h
  split at h
  · rename_i s i e
    obtain ⟨hs, h0, rfl, L, hT, k⟩ := h
    have hs1 := hs.1
    obtain ⟨i, rfl⟩ := Int.eq_ofNat_of_zero_le h0
    rw [Int.toNat_natCast] at hT
    have hz : s.length ≤ SZ := by simp only [SZ]; omega
    simp only [rd_tokens_between, startF, sSeq, sSet, sRet, eVar, eLst, aNil, sWhile, List.map_cons, List.map_nil, List.cons_append, List.nil_append, List.length_cons, List.length_nil, List.replicate, get_zero, get_succ, put_zero, put_succ]
    refine ⟨by decide, fun p hp => ⟨s.length + 1, ?_⟩⟩
    refine whileN_ind (fun n γ K => Le G K ∧ ∃ (at' : Nat) (done rest : List W) (o5 o6 : Option W), γ = [some (.str s), some (.int (i : Nat)), some (.int (s.length : Nat)), some (.ref p), some (.int (at' : Nat)), o5, o6] ∧ K p = some (.lst done) ∧ done ++ rest = L ∧ Toks s at' rest ∧ s.length ≤ at' + n ∧ done.length ≤ at') ?_ _ _ _ ⟨.up hp, i, [], L, none, none, rfl, up_same, rfl, hT, by omega, Nat.zero_le _⟩
    rintro n γ K ⟨le, at', done, rest, o5, o6, rfl, ep, eL, hR, hn, hd⟩ F hF
    simp only [rd_tokens_between_c0, tV, eOp, eVar, rLt, get_zero, get_succ]
    by_cases hl : at' < s.length
    · rw [if_pos (by simpa using hl)]
      simp only [rd_tokens_between_b1, sIf, tOr, tV, eOp, eVar, eC, rAt, at_nat (List.getElem?_eq_getElem hl), rEq, eqA, get_zero, get_succ]
      refine ⟨hz, ?_⟩
      have hc := List.getElem?_eq_getElem hl
      cases hR with
      | done h => omega
      | skip h hc2 r =>
        rw [h] at hc
        cases hc
        have fin := hF (n - 1) (by omega) [some (.str s), some (.int (i : Nat)), some (.int (s.length : Nat)), some (.ref p), some (.int ((at' + 1 : Nat) : Int)), o5, o6] K ⟨le, at' + 1, done, rest, o5, o6, rfl, ep, eL, r, by omega, by omega⟩
        rcases hc2 with e | e
        · simp [e]; exact fin
        · simp [e]; exact ⟨by simpa using hz, fin⟩
      | cmt h nl hk r =>
        rw [h] at hc
        have e35 : s[at'] = 35 := (Option.some.inj hc).symm
        simp [e35]
        have n1 := nl_step nl hl (by rw [h]; decide)
        refine ⟨by simpa using hz, fun r' hr' => ?_⟩
        have ek := fnd_NL hr' nl hk
        have fin := hF (n - 1) (by omega) [some (.str s), some (.int (i : Nat)), some (.int (s.length : Nat)), some (.ref p), some (.int (_ : Nat)), some (.int r'), o6] K ⟨le, _, done, rest, _, o6, rfl, ep, eL, r, by have := n1.1; omega, by have := n1.1; omega⟩
        rw [← ek] at fin
        by_cases hneg : r' < 0
        · rw [if_pos hneg] at fin ⊢; exact fin
        · rw [if_neg hneg] at fin ⊢; exact fin
      | tok h h1 h2 h3 r =>
        rename_i c l
        rw [h] at hc
        have ec : s[at'] = c := (Option.some.inj hc).symm
        have hg := tok_gt h
        simp [ec, h1, h2, h3]
        refine ⟨by simpa using hz, hs, by omega, c, h, ?_⟩
        simp only [ep, Int.toNat_natCast]
        refine ⟨trivial, by omega, ?_⟩
        have fin := hF (n - 1) (by omega) [some (.str s), some (.int (i : Nat)), some (.int (s.length : Nat)), some (.ref p), some (.int ((tokE s at' c).2 : Nat)), o5, some (tokW s at' c)] (up K p (.lst (done ++ [tokW s at' c]))) ⟨le.upd hp, _, done ++ [tokW s at' c], l, _, _, rfl, up_same, by simpa using eL, r, by omega, by simp; omega⟩
        simpa [tokW, at_, ixn] using fin
    · rw [if_neg (by simpa using hl)]
      cases hR with
      | done h =>
        rw [List.append_nil] at eL
        subst eL
        exact k K p le ep
      | skip h _ _ => have := (List.getElem?_eq_some_iff.mp h).1; omega
      | cmt h _ _ _ => have := (List.getElem?_eq_some_iff.mp h).1; omega
      | tok h _ _ _ _ => have := (List.getElem?_eq_some_iff.mp h).1; omega
  · exact h.elim

def sp_tokens : Sp := fun ws G Q _ => match ws with
  | [.str s] => okS s ∧ ∃ L, Toks s 0 L ∧ ∀ G' p, Le G G' → G' p = some (.lst L) → Q (.ref p) G'
  | _ => False
theorem mono_tokens : Mono sp_tokens := by
  intro ws G Q Q' E E' hq he h
  unfold sp_tokens at h ⊢
  split at h
  · obtain ⟨a, L, d, k⟩ := h
    exact ⟨a, L, d, fun G' p l e => hq _ _ (k G' p l e)⟩
  · exact h.elim
theorem len_tokens (ws : List W) (G : Gh) (Q : QV) (E : XQ) (h : sp_tokens ws G Q E) : ws.length = 1 := by
  unfold sp_tokens at h
  split at h
  · rfl
  · exact h.elim
theorem vc_tokens (ws : List W) (G : Gh) (Q : QV) (E : XQ) (fg : Fgt Q E) (h : sp_tokens ws G Q E) : rd_tokens sp_between { nx := fun _ G' => Q .non G', rt := Q, ex := fun _ => E } (startF 1 ws) G := by
  unfold sp_tokens at h
  split at h
  · rename_i s
    obtain ⟨hs, L, hT, k⟩ := h
    have hs1 := hs.1
    simp only [rd_tokens, startF, sRet, eVar, eC, eCall, eBlt, bLen, aCons, aNil, List.map_cons, List.map_nil, List.cons_append, List.nil_append, List.length_cons, List.length_nil, List.replicate, get_zero, get_succ, sp_between]
    exact ⟨by simp only [SZ]; omega, hs, by decide, trivial, L, hT, k⟩
  · exact h.elim

/-! ### is_name -/
def nameTok (s : List Nat) : W := .tup [.str kName, .int 0, .int (s.length : Nat)]
def sp_isname : Sp := fun ws G Q _ => match ws with
  | [.str s] => okS s ∧ ∃ L, Toks s 0 L ∧ Q (.bl (weqL L [nameTok s])) G
  | _ => False
theorem mono_isname : Mono sp_isname := by
  intro ws G Q Q' E E' hq he h
  unfold sp_isname at h ⊢
  split at h
  · obtain ⟨a, L, d, k⟩ := h
    exact ⟨a, L, d, hq _ _ k⟩
  · exact h.elim
theorem len_isname (ws : List W) (G : Gh) (Q : QV) (E : XQ) (h : sp_isname ws G Q E) : ws.length = 1 := by
  unfold sp_isname at h
  split at h
  · rfl
  · exact h.elim
theorem nameTok_okD (s : List Nat) : okD DP (nameTok s) = true := by
  have h2 : (kName.all fun c => decide (c < 1114112)) = true := by decide
  unfold nameTok DP
  rw [okD_tup]
  simp [okD_str]
  simpa using h2
theorem vc_isname (ws : List W) (G : Gh) (Q : QV) (E : XQ) (fg : Fgt Q E) (h : sp_isname ws G Q E) : rd_is_name sp_tokens { nx := fun _ G' => Q .non G', rt := Q, ex := fun _ => E } (startF 1 ws) G := by
  unfold sp_isname at h
  split at h
  · rename_i s
    obtain ⟨hs, L, hT, k⟩ := h
    have hs1 := hs.1
    simp only [rd_is_name, startF, sRet, eVar, eC, eCall, eOp, eLst, eTup, eBlt, bLen, aCons, aNil, List.map_cons, List.map_nil, List.cons_append, List.nil_append, List.length_cons, List.length_nil, List.replicate, get_zero, get_succ, sp_tokens]
    refine ⟨hs, L, hT, fun G' p le ep => ⟨by simp only [SZ]; omega, show 3 ≤ SZ by decide, show 1 ≤ SZ by decide, fun q hq => ?_⟩⟩
    simp only [rEq, eqA, up_ne (ne_free' ep hq), ep, up_same]
    have ok2 : [W.tup [W.str [110, 97, 109, 101], W.int 0, W.int (s.length : Nat)]].all (okD DP) = true := by
      rw [List.all_cons, show okD DP (W.tup [W.str [110, 97, 109, 101], W.int 0, W.int (s.length : Nat)]) = true from nameTok_okD s]; rfl
    exact ⟨toks_okD hT, ok2, fg.rt _ _ _ (le.trans (.up hq)) k⟩
  · exact h.elim

/-! ### the tokens, reckoned -/
def nlF (s : List Nat) : Nat → Nat → Nat
  | 0, i => i
  | n + 1, i => if s[i]? = some 10 ∨ s.length ≤ i then i else nlF s n (i + 1)
theorem nlF_ok (s : List Nat) : ∀ (n i : Nat), i ≤ s.length → s.length ≤ i + n → NL s i (nlF s n i) ∧ nlF s n i ≤ s.length := by
  intro n
  induction n with
  | zero => intro i h0 h; exact ⟨⟨Nat.le_refl _, fun v h1 h2 => absurd h2 (by unfold nlF; omega), .inr (by unfold nlF; omega)⟩, by unfold nlF; omega⟩
  | succ n ih =>
    intro i h0 h
    unfold nlF
    by_cases q : s[i]? = some 10 ∨ s.length ≤ i
    · rw [if_pos q]
      refine ⟨⟨Nat.le_refl _, fun v h1 h2 => by omega, ?_⟩, h0⟩
      rcases q with q | q
      · exact .inl q
      · exact .inr (by omega)
    · rw [if_neg q]
      rw [not_or] at q
      obtain ⟨⟨h1, h2, h3⟩, h4⟩ := ih (i + 1) (by omega) (by omega)
      refine ⟨⟨by omega, fun v hv hk => ?_, h3⟩, h4⟩
      by_cases e : v = i
      · rw [e]; exact q.1
      · exact h2 v (by omega) hk
def toksF (s : List Nat) : Nat → Nat → List W
  | 0, _ => []
  | n + 1, i => match s[i]? with
    | none => []
    | some c => if c = 32 ∨ c = 10 then toksF s n (i + 1) else if c = 35 then toksF s n (nlF s (s.length - i) i) else tokW s i c :: toksF s n (tokE s i c).2
theorem toksF_ok (s : List Nat) : ∀ (n i : Nat), s.length ≤ i + n → Toks s i (toksF s n i) := by
  intro n
  induction n with
  | zero => intro i h; exact .done (by omega)
  | succ n ih =>
    intro i h
    unfold toksF
    cases hc : s[i]? with
    | none => exact .done (List.getElem?_eq_none_iff.mp hc)
    | some c =>
      have hi := (List.getElem?_eq_some_iff.mp hc).1
      simp only
      by_cases h32 : c = 32 ∨ c = 10
      · rw [if_pos h32]
        exact .skip hc h32 (ih (i + 1) (by omega))
      · rw [if_neg h32]
        by_cases h35 : c = 35
        · subst h35
          rw [if_pos rfl]
          obtain ⟨hk, hk2⟩ := nlF_ok s (s.length - i) i (by omega) (by omega)
          have h1 := nl_step hk hi (by rw [hc]; decide)
          exact .cmt hc hk hk2 (ih _ (by have := h1.1; omega))
        · rw [if_neg h35]
          have hg := tok_gt hc
          exact .tok hc (fun z => h32 (.inl z)) (fun z => h32 (.inr z)) h35 (ih _ (by omega))
def toksL (s : List Nat) : List W := toksF s s.length 0
theorem toksL_ok (s : List Nat) : Toks s 0 (toksL s) := toksF_ok s _ 0 (by omega)

/-! ### slices, edits -/
theorem cut_to {α : Type} {s : List α} {i : Nat} (h : i ≤ s.length) : cut s none (some (i : Int)) = s.take i := by
  unfold cut lo_ hi_ clip
  simp only [List.drop_zero, Nat.sub_zero, if_pos (Int.natCast_nonneg _), Int.toNat_natCast]
  rw [Nat.min_eq_left h]
theorem cut_from {α : Type} {s : List α} {i : Nat} (h : i ≤ s.length) : cut s (some (i : Int)) none = s.drop i := by
  unfold cut lo_ hi_ clip
  simp only
  rw [if_pos (by omega), Int.toNat_natCast, Nat.min_eq_left h, List.take_of_length_le]
  simp
theorem cut_mid {α : Type} {s : List α} {i j : Nat} : cut s (some (i : Int)) (some (j : Int)) = (s.drop i).take (j - i) := by
  unfold cut lo_ hi_ clip
  simp only [if_pos (Int.natCast_nonneg _), Int.toNat_natCast]
  by_cases h : i ≤ s.length
  · rw [Nat.min_eq_left h]
    by_cases h2 : j ≤ s.length
    · rw [Nat.min_eq_left h2]
    · rw [Nat.min_eq_right (by omega), List.take_of_length_le (by simp), List.take_of_length_le (by simp; omega)]
  · rw [List.drop_eq_nil_of_le (by omega), List.drop_eq_nil_of_le (by omega)]; simp
def edited (t : List Nat) (a b : Nat) (new : List Nat) : List Nat := t.take a ++ new ++ t.drop b
theorem ed_len {t new : List Nat} {a b : Nat} (hab : a ≤ b) (hb : b ≤ t.length) : (edited t a b new).length = a + new.length + (t.length - b) := by
  unfold edited
  rw [List.length_append, List.length_append, List.length_take, List.length_drop]; omega
theorem OkT.edit {t new : List Nat} {a b : Nat} (h1 : OkT t) (h2 : OkT new) : OkT (edited t a b new) := by
  unfold edited
  exact .append (.append (fun c hc => h1 c (List.mem_of_mem_take hc)) h2) fun c hc => h1 c (List.mem_of_mem_drop hc)
def charsC : List Nat := [32, 33, 34, 35, 36, 38, 39, 40, 41, 42, 43, 44, 45, 46, 47, 48, 49, 50, 51, 52, 53, 54, 55, 56, 57, 58, 59, 60, 61, 62, 63, 64, 65, 66, 67, 68, 69, 70, 71, 72, 73, 74, 75, 76, 77, 78, 79, 80, 81, 82, 83, 84, 85, 86, 87, 88, 89, 90, 91, 92, 93, 94, 95, 96, 97, 98, 99, 100, 101, 102, 103, 104, 105, 106, 107, 108, 109, 110, 111, 112, 113, 114, 115, 116, 117, 118, 119, 120, 121, 122, 123, 124, 125, 126, 10]
theorem chb_in : ∀ c, c < 128 → chb c = true → c ∈ charsC := by decide
theorem chb_of : ∀ c, c ∈ charsC → chb c = true := by decide
theorem chb_iff (c : Nat) : decide (c ∈ charsC) = chb c := by
  cases h : chb c with
  | true =>
    have : c < 128 := by unfold chb at h; simp at h; omega
    exact decide_eq_true (chb_in c this h)
  | false => exact decide_eq_false fun z => by rw [chb_of c z] at h; cases h
/-- has_right_characters -/
def sp_right : Sp := fun ws G Q _ => match ws with
  | [.str s] => Q (.bl (s.all chb)) G
  | _ => False
theorem mono_right : Mono sp_right := by
  intro ws G Q Q' E E' hq he h
  unfold sp_right at h ⊢
  split at h
  · exact hq _ _ h
  · exact h.elim
theorem len_right (ws : List W) (G : Gh) (Q : QV) (E : XQ) (h : sp_right ws G Q E) : ws.length = 1 := by
  unfold sp_right at h
  split at h
  · rfl
  · exact h.elim
theorem vc_right (ws : List W) (G : Gh) (Q : QV) (E : XQ) (fg : Fgt Q E) (h : sp_right ws G Q E) : rd_has_right_characters { nx := fun _ G' => Q .non G', rt := Q, ex := fun _ => E } (startF 2 ws) G := by
  unfold sp_right at h
  split at h
  · rename_i s
    have e1 : c_CHARACTERS = .str charsC := rfl
    simp only [rd_has_right_characters, startF, sSeq, sRet, eVar, eC, sFor, iVal, items, List.map_cons, List.map_nil, List.cons_append, List.nil_append, List.length_cons, List.length_nil, List.replicate, get_zero, get_succ]
    refine ⟨rfl, _, rfl, ?_⟩
    refine forL_ind (fun r γ K => K = G ∧ ∃ l o, r = l.map (fun c => W.str [c]) ∧ γ = [some (.str s), o] ∧ s.all chb = l.all chb) (fun r γ K _ => rfl) ?_ ?_ _ _ _ ⟨rfl, s, _, rfl, rfl, rfl⟩
    · rintro γ K ⟨rfl, l, o, e, rfl, e2⟩
      cases l with
      | nil => rw [e2] at h; exact h
      | cons c l => cases e
    · rintro w r γ K ⟨rfl, l, o, e, rfl, e2⟩ F hF
      cases l with
      | nil => cases e
      | cons c l =>
        simp only [List.map_cons, List.cons.injEq] at e
        obtain ⟨rfl, rfl⟩ := e
        simp only [gName, rd_has_right_characters_b0, sIf, tV, eOp, eVar, eC, e1, rNotInD, rInB, rNotIn, rInA, get_zero, get_succ, put_zero, put_succ, sNext, sRet]
        rw [chb_iff]
        cases hc : chb c with
        | true =>
          rw [if_neg (by decide)]
          exact hF _ _ ⟨rfl, l, _, rfl, rfl, by rw [e2, List.all_cons, hc]; rfl⟩
        | false =>
          rw [if_pos (by decide)]
          rw [e2, List.all_cons, hc] at h
          exact h
  · exact h.elim
/-- apply_edit -/
def fitsE (t : List Nat) (a b : Int) (new : List Nat) : Prop := 0 ≤ a ∧ a ≤ b ∧ b ≤ t.length ∧ new.all chb = true ∧ (edited t a.toNat b.toNat new).length ≤ 4000
instance {t : List Nat} {a b : Int} {new : List Nat} : Decidable (fitsE t a b new) := by unfold fitsE; infer_instance
def sp_apply (C : Nat) : Sp := fun ws G Q E => match ws with
  | [.str t, .tup [.int a, .int b, .str new]] => t.length ≤ 100000 ∧ new.length ≤ 100000 ∧ (fitsE t a b new → Q (.str (edited t a.toNat b.toNat new)) G) ∧ (¬ fitsE t a b new → E (.ref C) [] G)
  | _ => False
theorem mono_apply (C : Nat) : Mono (sp_apply C) := by
  intro ws G Q Q' E E' hq he h
  unfold sp_apply at h ⊢
  split at h
  · exact ⟨h.1, h.2.1, fun f => hq _ _ (h.2.2.1 f), fun f => he _ _ _ (h.2.2.2 f)⟩
  · exact h.elim
theorem len_apply (C : Nat) (ws : List W) (G : Gh) (Q : QV) (E : XQ) (h : sp_apply C ws G Q E) : ws.length = 2 := by
  unfold sp_apply at h
  split at h
  · rfl
  · exact h.elim
theorem vc_apply (C : Nat) (ws : List W) (G : Gh) (Q : QV) (E : XQ) (fg : Fgt Q E) (h : sp_apply C ws G Q E) : rd_apply_edit C sp_right { nx := fun _ G' => Q .non G', rt := Q, ex := fun _ => E } (startF 6 ws) G := by
  unfold sp_apply at h
  split at h
  · rename_i t a b new
    obtain ⟨hl1, hl2, kq, ke⟩ := h
    have hz : t.length ≤ SZ := by simp only [SZ]; omega
    have eM : c_MOST = .int 4000 := rfl
    simp only [rd_apply_edit, startF, sSeq, sAsg, eVar, gTup, gCons, gNil, gName, List.map_cons, List.map_nil, List.cons_append, List.nil_append, List.length_cons, List.length_nil, List.replicate, get_zero, get_succ, put_zero, put_succ]
    refine ⟨trivial, trivial, ?_⟩
    simp only [sIf, tOr, tNot, tV, tTru, eCh3, eOp, eC, eVar, eCall, eBlt, bLen, aCons, aNil, rLe, sp_right, get_zero, get_succ, put_zero, put_succ]
    by_cases h1 : (0 : Int) ≤ a
    · rw [decide_eq_true h1]
      simp only []
      by_cases h2 : a ≤ b
      · rw [decide_eq_true h2]
        simp only []
        refine ⟨hz, ?_⟩
        by_cases h3 : b ≤ (t.length : Int)
        · rw [decide_eq_true h3]
          simp only [Bool.not_true, Bool.false_eq_true, if_false, truth]
          cases h4 : new.all chb with
          | false =>
            simp only [Bool.not_false, if_true, sThrow]
            exact ke fun z => by have z4 := z.2.2.2.1; rw [h4] at z4; cases z4
          | true =>
            obtain ⟨a, rfl⟩ := Int.eq_ofNat_of_zero_le h1
            obtain ⟨b, rfl⟩ := Int.eq_ofNat_of_zero_le (Int.le_trans h1 h2)
            rw [Int.toNat_natCast, Int.toNat_natCast] at kq
            have hed := ed_len (t := t) (new := new) (a := a) (b := b) (by omega) (by omega)
            have c1 : cut t none (some (a : Int)) = t.take a := cut_to (by omega)
            have c2 : cut t (some (b : Int)) none = t.drop b := cut_from (by omega)
            simp only [Bool.not_true, Bool.false_eq_true, if_false, sNext, sSeq, sSet, eOp, eSl, oNo, oPart, eVar, rSl, rAdd, c1, c2, get_zero, get_succ, put_zero, put_succ]
            refine ⟨hz, by simp only [List.length_take, SZ]; omega, hz, by simp only [List.length_append, List.length_take, List.length_drop, SZ]; omega, ?_⟩
            simp only [sIf, tV, eOp, eBlt, bLen, aCons, aNil, eVar, eC, eM, rGt, sRet, sNext, sThrow, get_zero, get_succ]
            change (edited t a b new).length ≤ SZ ∧ (if decide ((4000 : Int) < ((edited t a b new).length : Int)) = true then _ else Q (.str (edited t a b new)) G)
            refine ⟨by simp only [SZ]; omega, ?_⟩
            by_cases h5 : (4000 : Int) < ((edited t a b new).length : Int)
            · rw [decide_eq_true h5, if_pos rfl]
              exact ke fun z => by have := z.2.2.2.2; rw [Int.toNat_natCast, Int.toNat_natCast] at this; omega
            · rw [decide_eq_false h5, if_neg (by decide)]
              exact kq ⟨h1, h2, h3, h4, by rw [Int.toNat_natCast, Int.toNat_natCast]; omega⟩
        · rw [decide_eq_false h3]
          simp only [Bool.not_false, if_true, sThrow]
          exact ke fun z => h3 z.2.2.1
      · rw [decide_eq_false h2]
        simp only [Bool.not_false, if_true, sThrow]
        exact ke fun z => h2 z.2.1
    · rw [decide_eq_false h1]
      simp only [Bool.not_false, if_true, sThrow]
      exact ke fun z => h1 z.1
  · exact h.elim

/-! ### is_text, inverse -/
def sp_istext : Sp := fun ws G Q _ => match ws with
  | [.str s] => s.length ≤ 100000 ∧ Q (.bl (decide (s.length ≤ 4000) && s.all chb)) G
  | _ => False
theorem mono_istext : Mono sp_istext := by
  intro ws G Q Q' E E' hq he h
  unfold sp_istext at h ⊢
  split at h
  · exact ⟨h.1, hq _ _ h.2⟩
  · exact h.elim
theorem len_istext (ws : List W) (G : Gh) (Q : QV) (E : XQ) (h : sp_istext ws G Q E) : ws.length = 1 := by
  unfold sp_istext at h
  split at h
  · rfl
  · exact h.elim
theorem vc_istext (ws : List W) (G : Gh) (Q : QV) (E : XQ) (fg : Fgt Q E) (h : sp_istext ws G Q E) : rd_is_text sp_right { nx := fun _ G' => Q .non G', rt := Q, ex := fun _ => E } (startF 1 ws) G := by
  unfold sp_istext at h
  split at h
  · rename_i s
    obtain ⟨hl, h⟩ := h
    have eM : c_MOST = .int 4000 := rfl
    simp only [rd_is_text, startF, sSeq, sSet, sRet, sRetN, sIf, sNext, sDrop, sAsg, sAug, sBrk, sCnt, sThrow, sFld, sFldAug, sPutA, sDput, sFor, iVal, iRng1, iRng2, tV, tTru, tAnd, tOr, tNot, eVar, eC, eOp, eUn, eIf, eAnd, eOr, eNot, eCh, eCh3, eCall, eBlt, eMet, eMakeX, eCallV, eFld, asIns, eTup, eLst, eDnewT, eDnew, eBm, tyW, aCons, aNil, aCs, eFS, eFmt, eJs_nil, eJs_cons, eSl, oNo, oPart, eDget1, eDget2, eDpop1, eDpop2, eDsetd, isDW, isDM, popK, popD, dictOf, rAt, rIx, rDget, rInD, rNotInD, rInB, rIn, rNotIn, rInA, rEq, rNe, eqA, rLt, rLe, rGt, rGe, rIs, rIsNot, rIsL, rIsLN, rAdd, rSub, rMod, rNeg, rIadd, rSl, isN_non, isN_bl, isN_int, isN_str, isN_ref, isN_tup, gName, gTup, gCons, gNil, truth, bLen, bAbs, bMin, bMax, bInt, bSum, bTuple, bList, bIsi, clsN, mAppend, mPop, mExtend, mReplaceL, rEqN, rNeN, rNeM, rEqE, rNeE, rInS2, eRev, get_zero, get_succ, put_zero, put_succ, del_zero, del_succ, nthW_zero, nthW_succ, setF_nil, setF_zero, setF_succ, Option.map_some, List.getElem?_cons_zero, List.getElem?_cons_succ, List.map_cons, List.map_nil, List.cons_append, List.nil_append, List.length_cons, List.length_nil, List.replicate, Bool.not_true, Bool.not_false, Bool.false_eq_true, if_false, if_true, eM, sp_right]
    refine ⟨by simp only [SZ]; omega, ?_⟩
    by_cases h4 : s.length ≤ 4000
    · rw [decide_eq_true (show (s.length : Int) ≤ 4000 by omega)]
      rw [decide_eq_true h4, Bool.true_and] at h
      simp only [startF, sSeq, sSet, sRet, sRetN, sIf, sNext, sDrop, sAsg, sAug, sBrk, sCnt, sThrow, sFld, sFldAug, sPutA, sDput, sFor, iVal, iRng1, iRng2, tV, tTru, tAnd, tOr, tNot, eVar, eC, eOp, eUn, eIf, eAnd, eOr, eNot, eCh, eCh3, eCall, eBlt, eMet, eMakeX, eCallV, eFld, asIns, eTup, eLst, eDnewT, eDnew, eBm, tyW, aCons, aNil, aCs, eFS, eFmt, eJs_nil, eJs_cons, eSl, oNo, oPart, eDget1, eDget2, eDpop1, eDpop2, eDsetd, isDW, isDM, popK, popD, dictOf, rAt, rIx, rDget, rInD, rNotInD, rInB, rIn, rNotIn, rInA, rEq, rNe, eqA, rLt, rLe, rGt, rGe, rIs, rIsNot, rIsL, rIsLN, rAdd, rSub, rMod, rNeg, rIadd, rSl, isN_non, isN_bl, isN_int, isN_str, isN_ref, isN_tup, gName, gTup, gCons, gNil, truth, bLen, bAbs, bMin, bMax, bInt, bSum, bTuple, bList, bIsi, clsN, mAppend, mPop, mExtend, mReplaceL, rEqN, rNeN, rNeM, rEqE, rNeE, rInS2, eRev, get_zero, get_succ, put_zero, put_succ, del_zero, del_succ, nthW_zero, nthW_succ, setF_nil, setF_zero, setF_succ, Option.map_some, List.getElem?_cons_zero, List.getElem?_cons_succ, List.map_cons, List.map_nil, List.cons_append, List.nil_append, List.length_cons, List.length_nil, List.replicate, Bool.not_true, Bool.not_false, Bool.false_eq_true, if_false, if_true]
      exact h
    · rw [decide_eq_false (show ¬ (s.length : Int) ≤ 4000 by omega)]
      rw [decide_eq_false h4, Bool.false_and] at h
      simp only [startF, sSeq, sSet, sRet, sRetN, sIf, sNext, sDrop, sAsg, sAug, sBrk, sCnt, sThrow, sFld, sFldAug, sPutA, sDput, sFor, iVal, iRng1, iRng2, tV, tTru, tAnd, tOr, tNot, eVar, eC, eOp, eUn, eIf, eAnd, eOr, eNot, eCh, eCh3, eCall, eBlt, eMet, eMakeX, eCallV, eFld, asIns, eTup, eLst, eDnewT, eDnew, eBm, tyW, aCons, aNil, aCs, eFS, eFmt, eJs_nil, eJs_cons, eSl, oNo, oPart, eDget1, eDget2, eDpop1, eDpop2, eDsetd, isDW, isDM, popK, popD, dictOf, rAt, rIx, rDget, rInD, rNotInD, rInB, rIn, rNotIn, rInA, rEq, rNe, eqA, rLt, rLe, rGt, rGe, rIs, rIsNot, rIsL, rIsLN, rAdd, rSub, rMod, rNeg, rIadd, rSl, isN_non, isN_bl, isN_int, isN_str, isN_ref, isN_tup, gName, gTup, gCons, gNil, truth, bLen, bAbs, bMin, bMax, bInt, bSum, bTuple, bList, bIsi, clsN, mAppend, mPop, mExtend, mReplaceL, rEqN, rNeN, rNeM, rEqE, rNeE, rInS2, eRev, get_zero, get_succ, put_zero, put_succ, del_zero, del_succ, nthW_zero, nthW_succ, setF_nil, setF_zero, setF_succ, Option.map_some, List.getElem?_cons_zero, List.getElem?_cons_succ, List.map_cons, List.map_nil, List.cons_append, List.nil_append, List.length_cons, List.length_nil, List.replicate, Bool.not_true, Bool.not_false, Bool.false_eq_true, if_false, if_true]
      exact h
  · exact h.elim
/-- inverse, of an edit that fits -/
def sp_inv : Sp := fun ws G Q _ => match ws with
  | [.str t, .tup [.int a, .int b, .str new]] => t.length ≤ 100000 ∧ new.length ≤ 100000 ∧ fitsE t a b new ∧ Q (.tup [.int a, .int (a + new.length), .str ((t.drop a.toNat).take (b.toNat - a.toNat))]) G
  | _ => False
theorem mono_inv : Mono sp_inv := by
  intro ws G Q Q' E E' hq he h
  unfold sp_inv at h ⊢
  split at h
  · exact ⟨h.1, h.2.1, h.2.2.1, hq _ _ h.2.2.2⟩
  · exact h.elim
theorem len_inv (ws : List W) (G : Gh) (Q : QV) (E : XQ) (h : sp_inv ws G Q E) : ws.length = 2 := by
  unfold sp_inv at h
  split at h
  · rfl
  · exact h.elim
theorem vc_inv (C : Nat) (ws : List W) (G : Gh) (Q : QV) (E : XQ) (fg : Fgt Q E) (h : sp_inv ws G Q E) : rd_inverse (sp_apply C) { nx := fun _ G' => Q .non G', rt := Q, ex := fun _ => E } (startF 5 ws) G := by
  unfold sp_inv at h
  split at h
  · rename_i t a b new
    obtain ⟨h1, h2, hf, h⟩ := h
    have hz1 : t.length ≤ SZ := by simp only [SZ]; omega
    have hz2 : new.length ≤ SZ := by simp only [SZ]; omega
    have hab := hf.2.1
    obtain ⟨a, rfl⟩ := Int.eq_ofNat_of_zero_le hf.1
    obtain ⟨b, rfl⟩ := Int.eq_ofNat_of_zero_le (Int.le_trans hf.1 hf.2.1)
    simp only [rd_inverse, startF, sSeq, sSet, sRet, sRetN, sIf, sNext, sDrop, sAsg, sAug, sBrk, sCnt, sThrow, sFld, sFldAug, sPutA, sDput, sFor, iVal, iRng1, iRng2, tV, tTru, tAnd, tOr, tNot, eVar, eC, eOp, eUn, eIf, eAnd, eOr, eNot, eCh, eCh3, eCall, eBlt, eMet, eMakeX, eCallV, eFld, asIns, eTup, eLst, eDnewT, eDnew, eBm, tyW, aCons, aNil, aCs, eFS, eFmt, eJs_nil, eJs_cons, eSl, oNo, oPart, eDget1, eDget2, eDpop1, eDpop2, eDsetd, isDW, isDM, popK, popD, dictOf, rAt, rIx, rDget, rInD, rNotInD, rInB, rIn, rNotIn, rInA, rEq, rNe, eqA, rLt, rLe, rGt, rGe, rIs, rIsNot, rIsL, rIsLN, rAdd, rSub, rMod, rNeg, rIadd, rSl, isN_non, isN_bl, isN_int, isN_str, isN_ref, isN_tup, gName, gTup, gCons, gNil, truth, bLen, bAbs, bMin, bMax, bInt, bSum, bTuple, bList, bIsi, clsN, mAppend, mPop, mExtend, mReplaceL, rEqN, rNeN, rNeM, rEqE, rNeE, rInS2, eRev, get_zero, get_succ, put_zero, put_succ, del_zero, del_succ, nthW_zero, nthW_succ, setF_nil, setF_zero, setF_succ, Option.map_some, List.getElem?_cons_zero, List.getElem?_cons_succ, List.map_cons, List.map_nil, List.cons_append, List.nil_append, List.length_cons, List.length_nil, List.replicate, Bool.not_true, Bool.not_false, Bool.false_eq_true, if_false, if_true]
    refine ⟨h1, h2, fun _ => ?_, fun z => absurd hf z⟩
    simp only [gTup, gCons, gNil, gName, startF, sSeq, sSet, sRet, sRetN, sIf, sNext, sDrop, sAsg, sAug, sBrk, sCnt, sThrow, sFld, sFldAug, sPutA, sDput, sFor, iVal, iRng1, iRng2, tV, tTru, tAnd, tOr, tNot, eVar, eC, eOp, eUn, eIf, eAnd, eOr, eNot, eCh, eCh3, eCall, eBlt, eMet, eMakeX, eCallV, eFld, asIns, eTup, eLst, eDnewT, eDnew, eBm, tyW, aCons, aNil, aCs, eFS, eFmt, eJs_nil, eJs_cons, eSl, oNo, oPart, eDget1, eDget2, eDpop1, eDpop2, eDsetd, isDW, isDM, popK, popD, dictOf, rAt, rIx, rDget, rInD, rNotInD, rInB, rIn, rNotIn, rInA, rEq, rNe, eqA, rLt, rLe, rGt, rGe, rIs, rIsNot, rIsL, rIsLN, rAdd, rSub, rMod, rNeg, rIadd, rSl, isN_non, isN_bl, isN_int, isN_str, isN_ref, isN_tup, gName, gTup, gCons, gNil, truth, bLen, bAbs, bMin, bMax, bInt, bSum, bTuple, bList, bIsi, clsN, mAppend, mPop, mExtend, mReplaceL, rEqN, rNeN, rNeM, rEqE, rNeE, rInS2, eRev, get_zero, get_succ, put_zero, put_succ, del_zero, del_succ, nthW_zero, nthW_succ, setF_nil, setF_zero, setF_succ, Option.map_some, List.getElem?_cons_zero, List.getElem?_cons_succ, List.map_cons, List.map_nil, List.cons_append, List.nil_append, List.length_cons, List.length_nil, List.replicate, Bool.not_true, Bool.not_false, Bool.false_eq_true, if_false, if_true, hz2, true_and, cut_mid]
    simp only [Int.toNat_natCast] at h
    exact ⟨hz1, by decide, h⟩
  · exact h.elim
/-- what is taken back -/
theorem undo_edit {t new : List Nat} {a b : Nat} (hab : a ≤ b) (hb : b ≤ t.length) : edited (edited t a b new) a (a + new.length) ((t.drop a).take (b - a)) = t := by
  have l1 : (t.take a).length = a := by rw [List.length_take]; omega
  unfold edited
  have e1 : (t.take a ++ new ++ t.drop b).take a = t.take a := by
    rw [List.append_assoc, List.take_append_of_le_length (by omega), List.take_of_length_le (by omega)]
  have e2 : (t.take a ++ new ++ t.drop b).drop (a + new.length) = t.drop b := by
    rw [List.drop_append_of_le_length (by rw [List.length_append]; omega), List.drop_eq_nil_of_le (by rw [List.length_append]; omega), List.nil_append]
  rw [e1, e2]
  have e3 : t.drop b = (t.drop a).drop (b - a) := by rw [List.drop_drop]; congr 1; omega
  rw [e3, List.append_assoc, List.take_append_drop, List.take_append_drop]

/-! ### k29: pieces, edits drawn -/
def isT (n : Nat) (w : W) : Prop := ∃ l, w = .str l ∧ OkT l ∧ l.length ≤ n
def piecesL : List (List Nat) := [[100, 101, 102, 32, 102, 57, 40], [100, 97, 116, 97, 32], [102, 48], [120], [40], [41], [58, 32, 73, 110, 116], [32, 61, 32], [49], [32, 43, 32], [10], [10, 32], [35, 32], [40, 108, 101, 116, 32, 120, 32, 61, 32], [32, 105, 110, 32], [44], [105, 109, 112, 111, 114, 116, 32, 109, 97, 105, 110, 58, 32], [97], [68, 48], [103, 48], [84, 48], [66, 111, 111, 108], [105, 102, 32], [32, 116, 104, 101, 110, 32], [32, 101, 108, 115, 101, 32], [46, 120], [32, 61, 61, 32], [102, 49, 40], [113], [32]]
theorem piecesL_ok : ∀ l ∈ piecesL, l.all chb = true ∧ l.length ≤ 13 := by decide
theorem piecesL_len : piecesL.length = 30 := by decide
theorem vc_snippet (ws : List W) (G : Gh) (Q : QV) (E : XQ) (fg : Fgt Q E) (h : sp_draw (isT 42) ws G Q E) : rd_law_snippet sp_take { nx := fun _ G' => Q .non G', rt := Q, ex := fun _ => E } (startF 3 ws) G := by
  unfold sp_draw at h
  split at h
  · rename_i t
    obtain ⟨c, T, k⟩ := h
    simp only [rd_law_snippet, startF, sSeq, sSet, sRet, eC, eVar, eOp, eLst, aCons, aNil, rAdd, List.map_cons, List.map_nil, List.cons_append, List.nil_append, List.length_cons, List.length_nil, List.replicate, get_zero, get_succ, put_zero, put_succ]
    refine ⟨by decide, fun p1 f1 => ?_⟩
    refine ⟨by decide, fun p2 f2 => ?_⟩
    have n12 : p1 ≠ p2 := (free_up f2).1.symm
    simp only [up_same, up_ne n12]
    refine ⟨by decide, fun p3 f3 => ?_⟩
    have f2' := (free_up f2).2
    have f3' := (free_up (free_up f3).2).2
    have eP : ∀ G : Gh, G p3 = some (.lst (piecesL.map W.str)) → ∀ d : Int, 0 ≤ d → d < 30 → ∃ l, OkT l ∧ l.length ≤ 13 ∧ ∀ Q : QV, Q (.str l) G → rIx (.ref p3) (.int d) G Q := fun G e d h0 h1 => by
      have hd : d.toNat < piecesL.length := by rw [piecesL_len]; omega
      have e2 : at_ (piecesL.map W.str) d = some (.str piecesL[d.toNat]) := at_int h0 (by rw [List.getElem?_map, List.getElem?_eq_getElem hd]; rfl)
      have h3 := piecesL_ok _ (List.getElem_mem hd)
      exact ⟨_, okT_all h3.1, h3.2, fun Q q => by simpa only [rIx, e, e2] using q⟩
    generalize hG3 : up _ p3 _ = G3
    have e3 : G3 p3 = some (.lst (piecesL.map W.str)) := by rw [← hG3, up_same]; rfl
    have kp3 : KeepBut t G G3 := by rw [← hG3]; exact (((KeepBut.refl).upd f1).upd f2').upd f3'
    have T3 : Tape G3 t c := by rw [← hG3]; exact ((T.new f1).new f2).new f3
    have n3t : p3 ≠ t := (T.free f3').1
    have n3c : p3 ≠ c := (T.free f3').2
    simp only [eBm, eC, tyW, aCons, aNil, eLc, iRng1, eCall, eVar, get_zero, get_succ]
    refine ⟨trivial, c, T3, by decide, by decide, fun m o h0 h1 T4 => ?_⟩
    refine ⟨rngOk_small h0 (by omega), fun D fD => ?_⟩
    have fD' := free_up fD
    refine ⟨_, rfl, ?_⟩
    have nDp : D ≠ p3 := by rintro rfl; rw [e3] at fD'; exact nomatch fD'.2
    refine lcL_ind (fun r acc G' => Tape G' t c ∧ KeepBut t G G' ∧ G' p3 = some (.lst (piecesL.map W.str)) ∧ G' D = some (.lst (acc)) ∧ ∃ ps : List (List Nat), acc = ps.map W.str ∧ (∀ p ∈ ps, OkT p ∧ p.length ≤ 13) ∧ ps.length + r.length = m.toNat)
      (fun r acc G' ⟨_, _, _, h, _⟩ => ⟨rfl, h⟩) ?_ ?_ _ _ _ ⟨?_, ?_, ?_, up_same, [], rfl, (fun p hp => nomatch hp), by rw [rangeW_length]; simp⟩
    · rintro acc G' ⟨T', kp', _, eD, ps, rfl, hp, hl⟩
      have hl5 : ps.length ≤ 5 := by simp at hl; omega
      have hs := sum_len (n := 13) fun p hp' => (hp p hp').2
      simp only [mJoin, eD, strsW_map, joinLen, List.length_nil, Nat.zero_mul, Nat.add_zero, joinN_flat]
      refine ⟨by simp only [SZ]; omega, tape_fin T T' kp' fg fun o' To => k _ o' ⟨_, rfl, .flat fun p hp' => (hp p hp').1, ?_⟩ To⟩
      have := flat_len (n := 13) fun p hp' => (hp p hp').2
      omega
    · rintro w r acc G' ⟨T', kp', eP3, eD, ps, rfl, hp, hl⟩ F hF
      simp only [gName, tYes, eOp, eVar, eCall, aCons, aNil, eC, wipe_cons, wipe_nil, get_zero, get_succ, put_zero, put_succ, del_zero, del_succ, if_true]
      refine ⟨c, T', by decide, by decide, fun d o2 g0 g1 T5 => ?_⟩
      have e5 : up G' t o2 p3 = some (.lst (piecesL.map W.str)) := (up_ne n3t).trans eP3
      obtain ⟨l, l1, l2, l3⟩ := eP _ e5 d g0 g1
      have nDt : D ≠ t := fD'.1
      refine l3 _ ⟨(up_ne nDt).trans eD, ?_, hF _ _ ⟨T5.upd nDt ?_, ?_, ?_, ?_, ps ++ [l], by simp, ?_, ?_⟩⟩
      · simp only [SZ, List.length_map]; simp at hl; omega
      · rintro rfl
        obtain ⟨oc, ec⟩ := T3.hasC
        rw [ec] at fD'; exact nomatch fD'.2
      · refine (kp'.trans .tape).upd ?_
        cases q : G D with
        | none => rfl
        | some oo => have := kp3 D oo nDt q; rw [fD'.2] at this; cases this
      · rw [up_ne nDp.symm]; exact e5
      · simp
      · intro p hp'
        rcases List.mem_append.mp hp' with h | h
        · exact hp p h
        · cases List.mem_singleton.mp h; exact ⟨l1, l2⟩
      · simp at hl ⊢; omega
    · exact T4.new fD
    · exact (kp3.trans .tape).trans (.new fD)
    · rw [up_ne nDp.symm, up_ne n3t]; exact e3
  · exact h.elim

/-! ### k29: the keeper under a server, and the server -/
abbrev Mp := List (W × W)
def okI (l : Mp) : Prop := ∀ x ∈ l, ∃ u r, x.2 = .tup [u, .int r] ∧ okD DP u = true
structure Kpp (CK f : Nat) (G : Gh) (p I En : Nat) (inp : Mp) (rev : Int) (g1 g2 g3 : W) : Prop where
  hp : G p = some (.ins CK ns_Keeper [.ref f, .ref I, .ref En, .int rev, .non, g1, g2, g3])
  hI : G I = some (.dtt inp)
  hE : G En = some (.dtt [])
  pI : p ≠ I
  pE : p ≠ En
  IE : I ≠ En
  io : okI inp
theorem look_ok {l : Mp} (h : okI l) {k w : W} (e : look l k = some w) : ∃ u r, w = .tup [u, .int r] ∧ okD DP u = true := by
  induction l with
  | nil => cases e
  | cons p l ih =>
    unfold look at e
    split at e
    · cases e; exact h p List.mem_cons_self
    · exact ih (fun x hx => h x (List.mem_cons_of_mem _ hx)) e
theorem okI_put {l : Mp} (h : okI l) {k v : W} {r : Int} (hv : okD DP v = true) : okI (putD l k (.tup [v, .int r])) := by
  intro x hx
  unfold putD at hx
  split at hx
  · obtain ⟨y, hy, e⟩ := List.mem_map.mp hx
    split at e
    · subst e; exact ⟨v, r, rfl, hv⟩
    · subst e; exact h y hy
  · rcases List.mem_append.mp hx with hx | hx
    · exact h x hx
    · rw [List.mem_singleton.mp hx]; exact ⟨v, r, rfl, hv⟩
theorem putD_len (l : Mp) (k v : W) : (putD l k v).length ≤ l.length + 1 := by
  unfold putD
  split
  · rw [List.length_map]; omega
  · simp
def sp_put (CK : Nat) : Sp := fun ws G Q _ => match ws with
  | [.ref p, k, v] => ∃ f I En inp rev g1 g2 g3, Kpp CK f G p I En inp rev g1 g2 g3 ∧ keyT k = true ∧ okD DP v = true ∧ inp.length ≤ 1000 ∧
      ∀ G' inp' rev', Kpp CK f G' p I En inp' rev' g1 g2 g3 → inp'.length ≤ inp.length + 1 → (∀ b, b ≠ p → b ≠ I → G' b = G b) → Q .non G'
  | _ => False
theorem mono_put (CK : Nat) : Mono (sp_put CK) := by
  intro ws G Q Q' E E' hq he h
  unfold sp_put at h ⊢
  split at h
  · obtain ⟨f, I, En, inp, rev, g1, g2, g3, a, b, c, d, k⟩ := h
    exact ⟨f, I, En, inp, rev, g1, g2, g3, a, b, c, d, fun G' i r x y z => hq _ _ (k G' i r x y z)⟩
  · exact h.elim
theorem len_put (CK : Nat) (ws : List W) (G : Gh) (Q : QV) (E : XQ) (h : sp_put CK ws G Q E) : ws.length = 3 := by
  unfold sp_put at h
  split at h
  · rfl
  · exact h.elim
theorem eqA_ok {x y : W} {G : Gh} {Q : Bool → Prop} (hx : okD DP x = true) (hy : okD DP y = true) (h : Q (weq x y)) : eqA x y G Q := by
  cases x with
  | ref a => exact absurd hx (by simp [okD, DP])
  | ty a => exact absurd hx (by simp [okD, DP])
  | kl a => exact absurd hx (by simp [okD, DP])
  | ktp a => exact absurd hx (by simp [okD, DP])
  | _ => cases y with
    | ref a => exact absurd hy (by simp [okD, DP])
    | ty a => exact absurd hy (by simp [okD, DP])
    | kl a => exact absurd hy (by simp [okD, DP])
    | ktp a => exact absurd hy (by simp [okD, DP])
    | _ => first | exact ⟨hx, hy, h⟩ | exact ⟨hy, h⟩ | exact h
theorem vc_put (CK : Nat) (ws : List W) (G : Gh) (Q : QV) (E : XQ) (fg : Fgt Q E) (h : sp_put CK ws G Q E) : rd_Keeper_put CK { nx := fun _ G' => Q .non G', rt := Q, ex := fun _ => E } (startF 3 ws) G := by
  unfold sp_put at h
  split at h
  · rename_i p k v
    obtain ⟨f, I, En, inp, rev, g1, g2, g3, K, hk, hv, hl, h⟩ := h
    have hSZ : SZ = 16777216 := rfl
    have hp := K.hp
    have hI := K.hI
    have hE := K.hE
    have fin : sSeq (sFldAug CK ns_Keeper 3 rIadd (eVar 0) (eC (.int 1))) (sPutA (eTup (aCons (eVar 2) (aCons (eFld CK ns_Keeper 3 (eVar 0)) (aNil)))) (eFld CK ns_Keeper 1 (eVar 0)) (eVar 1)) { nx := fun _ G' => Q .non G', rt := Q, ex := fun _ => E } [some (.ref p), some k, some v] G := by
      have hI2 : ∀ o, up G p o I = some (.dtt inp) := fun o => by rw [up_ne K.pI.symm]; exact hI
      simp only [startF, sSeq, sSet, sRet, sRetN, sIf, sNext, sDrop, sAsg, sAug, sBrk, sCnt, sThrow, sFld, sFldAug, sPutA, sDput, sFor, iVal, iRng1, iRng2, tV, tTru, tAnd, tOr, tNot, eVar, eC, eOp, eUn, eIf, eAnd, eOr, eNot, eCh, eCh3, eCall, eBlt, eMet, eMakeX, eCallV, eFld, asIns, eTup, eLst, eDnewT, eDnew, eBm, tyW, aCons, aNil, aCs, eFS, eFmt, eJs_nil, eJs_cons, eSl, oNo, oPart, eDget1, eDget2, eDpop1, eDpop2, eDsetd, isDW, isDM, popK, popD, dictOf, rAt, rIx, rDget, rInD, rNotInD, rInB, rIn, rNotIn, rInA, rEq, rNe, eqA, rLt, rLe, rGt, rGe, rIs, rIsNot, rIsL, rIsLN, rAdd, rSub, rMod, rNeg, rIadd, rSl, isN_non, isN_bl, isN_int, isN_str, isN_ref, isN_tup, gName, gTup, gCons, gNil, truth, bLen, bAbs, bMin, bMax, bInt, bSum, bTuple, bList, bIsi, clsN, mAppend, mPop, mExtend, mReplaceL, rEqN, rNeN, rNeM, rEqE, rNeE, rInS2, eRev, get_zero, get_succ, put_zero, put_succ, del_zero, del_succ, nthW_zero, nthW_succ, setF_nil, setF_zero, setF_succ, Option.map_some, List.getElem?_cons_zero, List.getElem?_cons_succ, List.map_cons, List.map_nil, List.cons_append, List.nil_append, List.length_cons, List.length_nil, List.replicate, Bool.not_true, Bool.not_false, Bool.false_eq_true, if_false, if_true, hp, true_and, and_self, hI2, up_same, hk]
      refine ⟨by decide, by omega, ?_⟩
      refine h _ _ (rev + 1) ⟨by rw [up_ne K.pI, up_same], up_same, by rw [up_ne K.IE.symm, up_ne K.pE.symm]; exact hE, K.pI, K.pE, K.IE, okI_put K.io hv⟩ (putD_len _ _ _) fun b h1 h2 => by rw [up_ne h2, up_ne h1]
    simp only [rd_Keeper_put]
    generalize sSeq (sFldAug CK ns_Keeper 3 rIadd (eVar 0) (eC (.int 1))) _ = T at fin ⊢
    simp only [startF, sSeq, sSet, sRet, sRetN, sIf, sNext, sDrop, sAsg, sAug, sBrk, sCnt, sThrow, sFld, sFldAug, sPutA, sDput, sFor, iVal, iRng1, iRng2, tV, tTru, tAnd, tOr, tNot, eVar, eC, eOp, eUn, eIf, eAnd, eOr, eNot, eCh, eCh3, eCall, eBlt, eMet, eMakeX, eCallV, eFld, asIns, eTup, eLst, eDnewT, eDnew, eBm, tyW, aCons, aNil, aCs, eFS, eFmt, eJs_nil, eJs_cons, eSl, oNo, oPart, eDget1, eDget2, eDpop1, eDpop2, eDsetd, isDW, isDM, popK, popD, dictOf, rAt, rIx, rDget, rInD, rNotInD, rInB, rIn, rNotIn, rInA, rEq, rNe, rLt, rLe, rGt, rGe, rIs, rIsNot, rIsL, rIsLN, rAdd, rSub, rMod, rNeg, rIadd, rSl, isN_non, isN_bl, isN_int, isN_str, isN_ref, isN_tup, gName, gTup, gCons, gNil, truth, bLen, bAbs, bMin, bMax, bInt, bSum, bTuple, bList, bIsi, clsN, mAppend, mPop, mExtend, mReplaceL, rEqN, rNeN, rNeM, rEqE, rNeE, rInS2, eRev, get_zero, get_succ, put_zero, put_succ, del_zero, del_succ, nthW_zero, nthW_succ, setF_nil, setF_zero, setF_succ, Option.map_some, List.getElem?_cons_zero, List.getElem?_cons_succ, List.map_cons, List.map_nil, List.cons_append, List.nil_append, List.length_cons, List.length_nil, List.replicate, Bool.not_true, Bool.not_false, Bool.false_eq_true, if_false, if_true, startF, List.map_cons, List.map_nil, List.cons_append, List.nil_append, List.length_cons, List.length_nil, List.replicate, get_zero, get_succ, hp, hE, hI, true_and, and_self, hk]
    have e0 : look ([] : Mp) k = none := rfl
    simp only [e0]
    cases ei : look inp k with
    | none =>
      have e1 : has inp k = false := by unfold has; rw [ei]; rfl
      simp only [e1, Bool.false_eq_true, if_false]
      exact fin
    | some w =>
      have e1 : has inp k = true := by unfold has; rw [ei]; rfl
      obtain ⟨u, r, rfl, ho⟩ := look_ok K.io ei
      have a0 : at_ [u, W.int r] 0 = some u := rfl
      simp only [e1, if_true, a0]
      refine eqA_ok ho hv ?_
      cases hw : weq u v with
      | true =>
        simp only [if_true]
        exact h G inp rev K (by omega) fun b _ _ => rfl
      | false =>
        simp only [Bool.false_eq_true, if_false]
        exact fin
  · exact h.elim

/-! ### k29: a keeper is made -/
/-- what stood at G and is not p stands at G', and is not i or e -/
def Old2 (G G' : Gh) (p i e : Nat) : Prop := ∀ b o, b ≠ p → G b = some o → G' b = some o ∧ b ≠ i ∧ b ≠ e
def sp_Kinit (CK : Nat) : Sp := fun ws G Q _ => match ws with
  | [.ref p, .ref f] => G p = some (.ins CK ns_Keeper []) ∧ ∀ G' I En g1 g2 g3, Kpp CK f G' p I En [] 0 g1 g2 g3 → Old2 G G' p I En → Q .non G'
  | _ => False
theorem mono_Kinit (CK : Nat) : Mono (sp_Kinit CK) := by
  intro ws G Q Q' E E' hq he h
  unfold sp_Kinit at h ⊢
  split at h
  · exact ⟨h.1, fun G' I En g1 g2 g3 a b => hq _ _ (h.2 G' I En g1 g2 g3 a b)⟩
  · exact h.elim
theorem len_Kinit (CK : Nat) (ws : List W) (G : Gh) (Q : QV) (E : XQ) (h : sp_Kinit CK ws G Q E) : ws.length = 2 := by
  unfold sp_Kinit at h
  split at h
  · rfl
  · exact h.elim
theorem up_none {G : Gh} {a b : Nat} {o : O} (h : up G a o b = none) : b ≠ a ∧ G b = none := by
  by_cases e : b = a
  · rw [e, up_same] at h; cases h
  · exact ⟨e, by rw [up_ne e] at h; exact h⟩
theorem vc_Kinit (CK : Nat) (ws : List W) (G : Gh) (Q : QV) (E : XQ) (fg : Fgt Q E) (h : sp_Kinit CK ws G Q E) : rd_Keeper__init CK { nx := fun _ G' => Q .non G', rt := Q, ex := fun _ => E } (startF 2 ws) G := by
  unfold sp_Kinit at h
  split at h
  · rename_i p f
    obtain ⟨hp, h⟩ := h
    simp only [rd_Keeper__init, startF, sSeq, sSet, sRet, sRetN, sIf, sNext, sDrop, sAsg, sAug, sBrk, sCnt, sThrow, sFld, sFldAug, sPutA, sDput, sFor, iVal, iRng1, iRng2, tV, tTru, tAnd, tOr, tNot, eVar, eC, eOp, eUn, eIf, eAnd, eOr, eNot, eCh, eCh3, eCall, eBlt, eMet, eMakeX, eCallV, eFld, asIns, eTup, eLst, eDnewT, eDnew, eBm, tyW, aCons, aNil, aCs, eFS, eFmt, eJs_nil, eJs_cons, eSl, oNo, oPart, eDget1, eDget2, eDpop1, eDpop2, eDsetd, isDW, isDM, popK, popD, dictOf, rAt, rIx, rDget, rInD, rNotInD, rInB, rIn, rNotIn, rInA, rEq, rNe, eqA, rLt, rLe, rGt, rGe, rIs, rIsNot, rIsL, rIsLN, rAdd, rSub, rMod, rNeg, rIadd, rSl, isN_non, isN_bl, isN_int, isN_str, isN_ref, isN_tup, gName, gTup, gCons, gNil, truth, bLen, bAbs, bMin, bMax, bInt, bSum, bTuple, bList, bIsi, clsN, mAppend, mPop, mExtend, mReplaceL, rEqN, rNeN, rNeM, rEqE, rNeE, rInS2, eRev, get_zero, get_succ, put_zero, put_succ, del_zero, del_succ, nthW_zero, nthW_succ, setF_nil, setF_zero, setF_succ, Option.map_some, List.getElem?_cons_zero, List.getElem?_cons_succ, List.map_cons, List.map_nil, List.cons_append, List.nil_append, List.length_cons, List.length_nil, List.replicate, Bool.not_true, Bool.not_false, Bool.false_eq_true, if_false, if_true, hp, up_same, and_self, true_and]
    intro i hi
    obtain ⟨ip, hi⟩ := up_none hi
    simp only [startF, sSeq, sSet, sRet, sRetN, sIf, sNext, sDrop, sAsg, sAug, sBrk, sCnt, sThrow, sFld, sFldAug, sPutA, sDput, sFor, iVal, iRng1, iRng2, tV, tTru, tAnd, tOr, tNot, eVar, eC, eOp, eUn, eIf, eAnd, eOr, eNot, eCh, eCh3, eCall, eBlt, eMet, eMakeX, eCallV, eFld, asIns, eTup, eLst, eDnewT, eDnew, eBm, tyW, aCons, aNil, aCs, eFS, eFmt, eJs_nil, eJs_cons, eSl, oNo, oPart, eDget1, eDget2, eDpop1, eDpop2, eDsetd, isDW, isDM, popK, popD, dictOf, rAt, rIx, rDget, rInD, rNotInD, rInB, rIn, rNotIn, rInA, rEq, rNe, eqA, rLt, rLe, rGt, rGe, rIs, rIsNot, rIsL, rIsLN, rAdd, rSub, rMod, rNeg, rIadd, rSl, isN_non, isN_bl, isN_int, isN_str, isN_ref, isN_tup, gName, gTup, gCons, gNil, truth, bLen, bAbs, bMin, bMax, bInt, bSum, bTuple, bList, bIsi, clsN, mAppend, mPop, mExtend, mReplaceL, rEqN, rNeN, rNeM, rEqE, rNeE, rInS2, eRev, get_zero, get_succ, put_zero, put_succ, del_zero, del_succ, nthW_zero, nthW_succ, setF_nil, setF_zero, setF_succ, Option.map_some, List.getElem?_cons_zero, List.getElem?_cons_succ, List.map_cons, List.map_nil, List.cons_append, List.nil_append, List.length_cons, List.length_nil, List.replicate, Bool.not_true, Bool.not_false, Bool.false_eq_true, if_false, if_true, up_ne ip.symm, up_same, and_self, true_and]
    intro e he
    obtain ⟨ep, he⟩ := up_none he
    obtain ⟨ei, he⟩ := up_none he
    obtain ⟨_, he⟩ := up_none he
    simp only [startF, sSeq, sSet, sRet, sRetN, sIf, sNext, sDrop, sAsg, sAug, sBrk, sCnt, sThrow, sFld, sFldAug, sPutA, sDput, sFor, iVal, iRng1, iRng2, tV, tTru, tAnd, tOr, tNot, eVar, eC, eOp, eUn, eIf, eAnd, eOr, eNot, eCh, eCh3, eCall, eBlt, eMet, eMakeX, eCallV, eFld, asIns, eTup, eLst, eDnewT, eDnew, eBm, tyW, aCons, aNil, aCs, eFS, eFmt, eJs_nil, eJs_cons, eSl, oNo, oPart, eDget1, eDget2, eDpop1, eDpop2, eDsetd, isDW, isDM, popK, popD, dictOf, rAt, rIx, rDget, rInD, rNotInD, rInB, rIn, rNotIn, rInA, rEq, rNe, eqA, rLt, rLe, rGt, rGe, rIs, rIsNot, rIsL, rIsLN, rAdd, rSub, rMod, rNeg, rIadd, rSl, isN_non, isN_bl, isN_int, isN_str, isN_ref, isN_tup, gName, gTup, gCons, gNil, truth, bLen, bAbs, bMin, bMax, bInt, bSum, bTuple, bList, bIsi, clsN, mAppend, mPop, mExtend, mReplaceL, rEqN, rNeN, rNeM, rEqE, rNeE, rInS2, eRev, get_zero, get_succ, put_zero, put_succ, del_zero, del_succ, nthW_zero, nthW_succ, setF_nil, setF_zero, setF_succ, Option.map_some, List.getElem?_cons_zero, List.getElem?_cons_succ, List.map_cons, List.map_nil, List.cons_append, List.nil_append, List.length_cons, List.length_nil, List.replicate, Bool.not_true, Bool.not_false, Bool.false_eq_true, if_false, if_true, up_ne ep.symm, up_same, up_up, and_self, true_and]
    intro g hg
    obtain ⟨gp, hg⟩ := up_none hg
    obtain ⟨ge, hg⟩ := up_none hg
    obtain ⟨_, hg⟩ := up_none hg
    obtain ⟨gi, hg⟩ := up_none hg
    obtain ⟨_, hg⟩ := up_none hg
    simp only [startF, sSeq, sSet, sRet, sRetN, sIf, sNext, sDrop, sAsg, sAug, sBrk, sCnt, sThrow, sFld, sFldAug, sPutA, sDput, sFor, iVal, iRng1, iRng2, tV, tTru, tAnd, tOr, tNot, eVar, eC, eOp, eUn, eIf, eAnd, eOr, eNot, eCh, eCh3, eCall, eBlt, eMet, eMakeX, eCallV, eFld, asIns, eTup, eLst, eDnewT, eDnew, eBm, tyW, aCons, aNil, aCs, eFS, eFmt, eJs_nil, eJs_cons, eSl, oNo, oPart, eDget1, eDget2, eDpop1, eDpop2, eDsetd, isDW, isDM, popK, popD, dictOf, rAt, rIx, rDget, rInD, rNotInD, rInB, rIn, rNotIn, rInA, rEq, rNe, eqA, rLt, rLe, rGt, rGe, rIs, rIsNot, rIsL, rIsLN, rAdd, rSub, rMod, rNeg, rIadd, rSl, isN_non, isN_bl, isN_int, isN_str, isN_ref, isN_tup, gName, gTup, gCons, gNil, truth, bLen, bAbs, bMin, bMax, bInt, bSum, bTuple, bList, bIsi, clsN, mAppend, mPop, mExtend, mReplaceL, rEqN, rNeN, rNeM, rEqE, rNeE, rInS2, eRev, get_zero, get_succ, put_zero, put_succ, del_zero, del_succ, nthW_zero, nthW_succ, setF_nil, setF_zero, setF_succ, Option.map_some, List.getElem?_cons_zero, List.getElem?_cons_succ, List.map_cons, List.map_nil, List.cons_append, List.nil_append, List.length_cons, List.length_nil, List.replicate, Bool.not_true, Bool.not_false, Bool.false_eq_true, if_false, if_true, up_ne gp.symm, up_same, up_up, and_self, true_and]
    refine ⟨by decide, ?_⟩
    intro s hs
    obtain ⟨sp, hs⟩ := up_none hs
    obtain ⟨sg, hs⟩ := up_none hs
    obtain ⟨_, hs⟩ := up_none hs
    obtain ⟨se, hs⟩ := up_none hs
    obtain ⟨_, hs⟩ := up_none hs
    obtain ⟨si, hs⟩ := up_none hs
    obtain ⟨_, hs⟩ := up_none hs
    simp only [startF, sSeq, sSet, sRet, sRetN, sIf, sNext, sDrop, sAsg, sAug, sBrk, sCnt, sThrow, sFld, sFldAug, sPutA, sDput, sFor, iVal, iRng1, iRng2, tV, tTru, tAnd, tOr, tNot, eVar, eC, eOp, eUn, eIf, eAnd, eOr, eNot, eCh, eCh3, eCall, eBlt, eMet, eMakeX, eCallV, eFld, asIns, eTup, eLst, eDnewT, eDnew, eBm, tyW, aCons, aNil, aCs, eFS, eFmt, eJs_nil, eJs_cons, eSl, oNo, oPart, eDget1, eDget2, eDpop1, eDpop2, eDsetd, isDW, isDM, popK, popD, dictOf, rAt, rIx, rDget, rInD, rNotInD, rInB, rIn, rNotIn, rInA, rEq, rNe, eqA, rLt, rLe, rGt, rGe, rIs, rIsNot, rIsL, rIsLN, rAdd, rSub, rMod, rNeg, rIadd, rSl, isN_non, isN_bl, isN_int, isN_str, isN_ref, isN_tup, gName, gTup, gCons, gNil, truth, bLen, bAbs, bMin, bMax, bInt, bSum, bTuple, bList, bIsi, clsN, mAppend, mPop, mExtend, mReplaceL, rEqN, rNeN, rNeM, rEqE, rNeE, rInS2, eRev, get_zero, get_succ, put_zero, put_succ, del_zero, del_succ, nthW_zero, nthW_succ, setF_nil, setF_zero, setF_succ, Option.map_some, List.getElem?_cons_zero, List.getElem?_cons_succ, List.map_cons, List.map_nil, List.cons_append, List.nil_append, List.length_cons, List.length_nil, List.replicate, Bool.not_true, Bool.not_false, Bool.false_eq_true, if_false, if_true, up_ne sp.symm, up_same, up_up, and_self, true_and]
    refine ⟨by decide, ?_⟩
    intro d hd
    obtain ⟨dp, hd⟩ := up_none hd
    obtain ⟨ds, hd⟩ := up_none hd
    obtain ⟨_, hd⟩ := up_none hd
    obtain ⟨dg, hd⟩ := up_none hd
    obtain ⟨_, hd⟩ := up_none hd
    obtain ⟨de, hd⟩ := up_none hd
    obtain ⟨_, hd⟩ := up_none hd
    obtain ⟨di, hd⟩ := up_none hd
    obtain ⟨_, hd⟩ := up_none hd
    simp only [startF, sSeq, sSet, sRet, sRetN, sIf, sNext, sDrop, sAsg, sAug, sBrk, sCnt, sThrow, sFld, sFldAug, sPutA, sDput, sFor, iVal, iRng1, iRng2, tV, tTru, tAnd, tOr, tNot, eVar, eC, eOp, eUn, eIf, eAnd, eOr, eNot, eCh, eCh3, eCall, eBlt, eMet, eMakeX, eCallV, eFld, asIns, eTup, eLst, eDnewT, eDnew, eBm, tyW, aCons, aNil, aCs, eFS, eFmt, eJs_nil, eJs_cons, eSl, oNo, oPart, eDget1, eDget2, eDpop1, eDpop2, eDsetd, isDW, isDM, popK, popD, dictOf, rAt, rIx, rDget, rInD, rNotInD, rInB, rIn, rNotIn, rInA, rEq, rNe, eqA, rLt, rLe, rGt, rGe, rIs, rIsNot, rIsL, rIsLN, rAdd, rSub, rMod, rNeg, rIadd, rSl, isN_non, isN_bl, isN_int, isN_str, isN_ref, isN_tup, gName, gTup, gCons, gNil, truth, bLen, bAbs, bMin, bMax, bInt, bSum, bTuple, bList, bIsi, clsN, mAppend, mPop, mExtend, mReplaceL, rEqN, rNeN, rNeM, rEqE, rNeE, rInS2, eRev, get_zero, get_succ, put_zero, put_succ, del_zero, del_succ, nthW_zero, nthW_succ, setF_nil, setF_zero, setF_succ, Option.map_some, List.getElem?_cons_zero, List.getElem?_cons_succ, List.map_cons, List.map_nil, List.cons_append, List.nil_append, List.length_cons, List.length_nil, List.replicate, Bool.not_true, Bool.not_false, Bool.false_eq_true, if_false, if_true, up_ne dp.symm, up_same, up_up, and_self, true_and]
    have rd : ∀ b : Nat, b ≠ p → b ≠ i → b ≠ e → b ≠ g → b ≠ s → b ≠ d → ∀ o1 o2 o3 o4 o5 o6 o7 o8 o9 o10 o11, up (up (up (up (up (up (up (up (up (up (up G p o1) i o2) p o3) e o4) p o5) g o6) p o7) s o8) p o9) d o10) p o11 b = G b := by
      intro b b1 b2 b3 b4 b5 b6 o1 o2 o3 o4 o5 o6 o7 o8 o9 o10 o11
      rw [up_ne b1, up_ne b6, up_ne b1, up_ne b5, up_ne b1, up_ne b4, up_ne b1, up_ne b3, up_ne b1, up_ne b2, up_ne b1]
    refine h _ i e (.ref g) (.ref s) (.ref d) ⟨up_same, ?_, ?_, ip.symm, ep.symm, ei.symm, fun x hx => nomatch hx⟩ fun b o hb z => ?_
    · rw [up_ne ip, up_ne di.symm, up_ne ip, up_ne si.symm, up_ne ip, up_ne gi.symm, up_ne ip, up_ne ei.symm, up_ne ip, up_same]
    · rw [up_ne ep, up_ne de.symm, up_ne ep, up_ne se.symm, up_ne ep, up_ne ge.symm, up_ne ep, up_same]
    · have nb : ∀ x, G x = none → b ≠ x := fun x hx y => by rw [y, hx] at z; cases z
      have b2 := nb _ hi; have b3 := nb _ he; have b4 := nb _ hg; have b5 := nb _ hs; have b6 := nb _ hd
      exact ⟨(rd b hb b2 b3 b4 b5 b6 _ _ _ _ _ _ _ _ _ _ _).trans z, b2, b3⟩
  · exact h.elim
/-- computed() -/
def sp_comp (CK : Nat) : Sp := fun ws G Q _ => match ws with
  | [.ref p] => ∃ f I En inp rev g1 g2 g3, Kpp CK f G p I En inp rev g1 g2 g3 ∧ ∀ G' q w, Kpp CK f G' p I En inp rev g1 g2 (.ref q) → (∀ b o, b ≠ p → G b = some o → G' b = some o) → Q w G'
  | _ => False
theorem mono_comp (CK : Nat) : Mono (sp_comp CK) := by
  intro ws G Q Q' E E' hq he h
  unfold sp_comp at h ⊢
  split at h
  · obtain ⟨f, I, En, inp, rev, g1, g2, g3, a, k⟩ := h
    exact ⟨f, I, En, inp, rev, g1, g2, g3, a, fun G' q w x y => hq _ _ (k G' q w x y)⟩
  · exact h.elim
theorem len_comp (CK : Nat) (ws : List W) (G : Gh) (Q : QV) (E : XQ) (h : sp_comp CK ws G Q E) : ws.length = 1 := by
  unfold sp_comp at h
  split at h
  · rfl
  · exact h.elim
theorem vc_comp (CK : Nat) (ws : List W) (G : Gh) (Q : QV) (E : XQ) (fg : Fgt Q E) (h : sp_comp CK ws G Q E) : rd_Keeper_computed CK { nx := fun _ G' => Q .non G', rt := Q, ex := fun _ => E } (startF 2 ws) G := by
  unfold sp_comp at h
  split at h
  · rename_i p
    obtain ⟨f, I, En, inp, rev, g1, g2, g3, K, k⟩ := h
    have hp := K.hp
    simp only [rd_Keeper_computed, startF, sSeq, sSet, sRet, sRetN, sIf, sNext, sDrop, sAsg, sAug, sBrk, sCnt, sThrow, sFld, sFldAug, sPutA, sDput, sFor, iVal, iRng1, iRng2, tV, tTru, tAnd, tOr, tNot, eVar, eC, eOp, eUn, eIf, eAnd, eOr, eNot, eCh, eCh3, eCall, eBlt, eMet, eMakeX, eCallV, eFld, asIns, eTup, eLst, eDnewT, eDnew, eBm, tyW, aCons, aNil, aCs, eFS, eFmt, eJs_nil, eJs_cons, eSl, oNo, oPart, eDget1, eDget2, eDpop1, eDpop2, eDsetd, isDW, isDM, popK, popD, dictOf, rAt, rIx, rDget, rInD, rNotInD, rInB, rIn, rNotIn, rInA, rEq, rNe, eqA, rLt, rLe, rGt, rGe, rIs, rIsNot, rIsL, rIsLN, rAdd, rSub, rMod, rNeg, rIadd, rSl, isN_non, isN_bl, isN_int, isN_str, isN_ref, isN_tup, gName, gTup, gCons, gNil, truth, bLen, bAbs, bMin, bMax, bInt, bSum, bTuple, bList, bIsi, clsN, mAppend, mPop, mExtend, mReplaceL, rEqN, rNeN, rNeM, rEqE, rNeE, rInS2, eRev, get_zero, get_succ, put_zero, put_succ, del_zero, del_succ, nthW_zero, nthW_succ, setF_nil, setF_zero, setF_succ, Option.map_some, List.getElem?_cons_zero, List.getElem?_cons_succ, List.map_cons, List.map_nil, List.cons_append, List.nil_append, List.length_cons, List.length_nil, List.replicate, Bool.not_true, Bool.not_false, Bool.false_eq_true, if_false, if_true, hp, true_and, and_self]
    refine ⟨by decide, fun q hq => ?_⟩
    have pq := ne_free' hp hq
    have Iq := ne_free' K.hI hq
    have Eq := ne_free' K.hE hq
    simp only [up_ne pq, hp, true_and, and_self]
    exact k _ q g3 ⟨up_same, by rw [up_ne K.pI.symm, up_ne Iq]; exact K.hI, by rw [up_ne K.pE.symm, up_ne Eq]; exact K.hE, K.pI, K.pE, K.IE, K.io⟩ fun b o hb e => by
      rw [up_ne hb, up_ne (ne_free' e hq)]; exact e
  · exact h.elim
/-- need_module, of a name and a text that are right -/
def nameOk (m : List Nat) : Prop := okS m ∧ ∃ L, Toks m 0 L ∧ weqL L [nameTok m] = true
def sp_needm : Sp := fun ws G Q _ => match ws with
  | [.str m, .str x] => nameOk m ∧ x.length ≤ 4000 ∧ OkT x ∧ Q .non G
  | _ => False
theorem mono_needm : Mono sp_needm := by
  intro ws G Q Q' E E' hq he h
  unfold sp_needm at h ⊢
  split at h
  · exact ⟨h.1, h.2.1, h.2.2.1, hq _ _ h.2.2.2⟩
  · exact h.elim
theorem len_needm (ws : List W) (G : Gh) (Q : QV) (E : XQ) (h : sp_needm ws G Q E) : ws.length = 2 := by
  unfold sp_needm at h
  split at h
  · rfl
  · exact h.elim
theorem okT_alls {l : List Nat} (h : OkT l) : l.all chb = true := List.all_eq_true.mpr h
theorem vc_needm (C : Nat) (ws : List W) (G : Gh) (Q : QV) (E : XQ) (fg : Fgt Q E) (h : sp_needm ws G Q E) : rd_need_module C sp_isname sp_istext { nx := fun _ G' => Q .non G', rt := Q, ex := fun _ => E } (startF 2 ws) G := by
  unfold sp_needm at h
  split at h
  · rename_i m x
    obtain ⟨⟨hm, L, hL, ew⟩, hx, ox, h⟩ := h
    simp only [rd_need_module, startF, sSeq, sSet, sRet, sRetN, sIf, sNext, sDrop, sAsg, sAug, sBrk, sCnt, sThrow, sFld, sFldAug, sPutA, sDput, sFor, iVal, iRng1, iRng2, tV, tTru, tAnd, tOr, tNot, eVar, eC, eOp, eUn, eIf, eAnd, eOr, eNot, eCh, eCh3, eCall, eBlt, eMet, eMakeX, eCallV, eFld, asIns, eTup, eLst, eDnewT, eDnew, eBm, tyW, aCons, aNil, aCs, eFS, eFmt, eJs_nil, eJs_cons, eSl, oNo, oPart, eDget1, eDget2, eDpop1, eDpop2, eDsetd, isDW, isDM, popK, popD, dictOf, rAt, rIx, rDget, rInD, rNotInD, rInB, rIn, rNotIn, rInA, rEq, rNe, eqA, rLt, rLe, rGt, rGe, rIs, rIsNot, rIsL, rIsLN, rAdd, rSub, rMod, rNeg, rIadd, rSl, isN_non, isN_bl, isN_int, isN_str, isN_ref, isN_tup, gName, gTup, gCons, gNil, truth, bLen, bAbs, bMin, bMax, bInt, bSum, bTuple, bList, bIsi, clsN, mAppend, mPop, mExtend, mReplaceL, rEqN, rNeN, rNeM, rEqE, rNeE, rInS2, eRev, get_zero, get_succ, put_zero, put_succ, del_zero, del_succ, nthW_zero, nthW_succ, setF_nil, setF_zero, setF_succ, Option.map_some, List.getElem?_cons_zero, List.getElem?_cons_succ, List.map_cons, List.map_nil, List.cons_append, List.nil_append, List.length_cons, List.length_nil, List.replicate, Bool.not_true, Bool.not_false, Bool.false_eq_true, if_false, if_true]
    refine ⟨hm, L, hL, ?_⟩
    simp only [ew, truth, Bool.not_true, Bool.false_eq_true, if_false, sp_istext]
    refine ⟨by omega, ?_⟩
    simp only [okT_alls ox, decide_eq_true hx, Bool.and_self, truth, Bool.not_true, Bool.false_eq_true, if_false]
    exact h
  · exact h.elim
/-! new_keeper -/
def okM (l : Mp) : Prop := ∀ x ∈ l, ∃ m s, x = (W.str m, W.str s) ∧ nameOk m ∧ s.length ≤ 4000 ∧ OkT s
theorem okT_okD {s : List Nat} (h : OkT s) : okD DP (.str s) = true := by
  rw [okD_str]
  exact List.all_eq_true.mpr fun y hy => decide_eq_true (by have := h.lt hy; omega)
theorem nameOk_okD {m : List Nat} (h : nameOk m) : okD DP (.str m) = true := by
  rw [okD_str]
  exact List.all_eq_true.mpr fun y hy => decide_eq_true (h.1.2 y hy)
theorem okM_keys : ∀ {l : Mp}, okM l → ∃ ks : List (List Nat), l.map (·.1) = ks.map W.str ∧ ∀ m ∈ ks, nameOk m ∧ ∃ s, look l (.str m) = some (.str s) ∧ s.length ≤ 4000 ∧ OkT s
  | [], _ => ⟨[], rfl, fun m h => nomatch h⟩
  | p :: l, h => by
    obtain ⟨m, s, rfl, h1, h2, h3⟩ := h p List.mem_cons_self
    obtain ⟨ks, e, k⟩ := okM_keys fun x hx => h x (List.mem_cons_of_mem _ hx)
    refine ⟨m :: ks, by rw [List.map_cons, List.map_cons, e], fun z hz => ?_⟩
    rcases List.mem_cons.mp hz with rfl | hz
    · exact ⟨h1, s, by unfold look; rw [if_pos (by simp [keq])], h2, h3⟩
    · obtain ⟨a, t, b, c⟩ := k z hz
      refine ⟨a, ?_⟩
      unfold look
      by_cases q : keq (.str m) (.str z) = true
      · rw [if_pos q]; exact ⟨s, rfl, h2, h3⟩
      · rw [if_neg q]; exact ⟨t, b, c⟩
def sp_newk (CK f : Nat) : Sp := fun ws G Q _ => match ws with
  | [.ref d] => ∃ l : Mp, G d = some (.dct l) ∧ okM l ∧ l.length ≤ 10 ∧ ∀ G' p I En inp rev g1 g2 g3, Kpp CK f G' p I En inp rev g1 g2 g3 → inp.length ≤ 20 → (∀ b o, G b = some o → G' b = some o ∧ b ≠ p ∧ b ≠ I ∧ b ≠ En) → Q (.ref p) G'
  | _ => False
theorem mono_newk (CK f : Nat) : Mono (sp_newk CK f) := by
  intro ws G Q Q' E E' hq he h
  unfold sp_newk at h ⊢
  split at h
  · obtain ⟨l, a, b, c, k⟩ := h
    exact ⟨l, a, b, c, fun G' p I En inp rev g1 g2 g3 x y z => hq _ _ (k G' p I En inp rev g1 g2 g3 x y z)⟩
  · exact h.elim
theorem len_newk (CK f : Nat) (ws : List W) (G : Gh) (Q : QV) (E : XQ) (h : sp_newk CK f ws G Q E) : ws.length = 1 := by
  unfold sp_newk at h
  split at h
  · rfl
  · exact h.elim
theorem okD_strs {l : List (List Nat)} (h : ∀ m ∈ l, okD DP (.str m) = true) : okD DP (.tup (l.map W.str)) = true := by
  unfold DP
  rw [okD_tup, List.all_eq_true]
  intro x hx
  obtain ⟨m, hm, rfl⟩ := List.mem_map.mp hx
  have := h m hm
  rw [okD_str] at this ⊢
  exact this
theorem vc_newk (CK f : Nat) (ws : List W) (G : Gh) (Q : QV) (E : XQ) (fg : Fgt Q E) (h : sp_newk CK f ws G Q E) : rd_new_keeper CK f (sp_Kinit CK) (sp_put CK) { nx := fun _ G' => Q .non G', rt := Q, ex := fun _ => E } (startF 3 ws) G := by
  unfold sp_newk at h
  split at h
  · rename_i d
    obtain ⟨l, hd, hl, hn, k⟩ := h
    obtain ⟨ks, ek, hk⟩ := okM_keys hl
    have kl : ks.length ≤ 10 := by
      have := congrArg List.length ek
      rw [List.length_map, List.length_map] at this; omega
    unfold rd_new_keeper
    refine sSeq_i (sSet_i ?_)
    simp only [startF, List.map_cons, List.map_nil, List.cons_append, List.nil_append, List.length_cons, List.length_nil, List.replicate, eMakeX, eC, aCons, aNil, put_zero, put_succ]
    intro p hp
    refine ⟨up_same, fun G1 I En g1 g2 g3 K1 old => ⟨rfl, ?_⟩⟩
    have old1 : ∀ b o, G b = some o → G1 b = some o ∧ b ≠ p ∧ b ≠ I ∧ b ≠ En := fun b o e => by
      have bp := ne_free' e hp
      obtain ⟨x, y, z⟩ := old b o bp ((up_ne bp).trans e)
      exact ⟨x, bp, y, z⟩
    have hd1 := (old1 _ _ hd).1
    -- the names
    refine sSeq_i (sDrop_i ?_)
    have hp1 := K1.hp
    simp only [startF, sSeq, sSet, sRet, sRetN, sIf, sNext, sDrop, sAsg, sAug, sBrk, sCnt, sThrow, sFld, sFldAug, sPutA, sDput, sFor, iVal, iRng1, iRng2, tV, tTru, tAnd, tOr, tNot, eVar, eC, eOp, eUn, eIf, eAnd, eOr, eNot, eCh, eCh3, eCall, eBlt, eMet, eMakeX, eCallV, eFld, asIns, eTup, eLst, eDnewT, eDnew, eBm, tyW, aCons, aNil, aCs, eFS, eFmt, eJs_nil, eJs_cons, eSl, oNo, oPart, eDget1, eDget2, eDpop1, eDpop2, eDsetd, isDW, isDM, popK, popD, dictOf, rAt, rIx, rDget, rInD, rNotInD, rInB, rIn, rNotIn, rInA, rEq, rNe, eqA, rLt, rLe, rGt, rGe, rIs, rIsNot, rIsL, rIsLN, rAdd, rSub, rMod, rNeg, rIadd, rSl, isN_non, isN_bl, isN_int, isN_str, isN_ref, isN_tup, gName, gTup, gCons, gNil, truth, bLen, bAbs, bMin, bMax, bInt, bSum, bTuple, bList, bIsi, clsN, mAppend, mPop, mExtend, mReplaceL, rEqN, rNeN, rNeM, rEqE, rNeE, rInS2, eRev, get_zero, get_succ, put_zero, put_succ, del_zero, del_succ, nthW_zero, nthW_succ, setF_nil, setF_zero, setF_succ, Option.map_some, List.getElem?_cons_zero, List.getElem?_cons_succ, List.map_cons, List.map_nil, List.cons_append, List.nil_append, List.length_cons, List.length_nil, List.replicate, Bool.not_true, Bool.not_false, Bool.false_eq_true, if_false, if_true, hp1, true_and]
    refine ⟨by decide, ?_⟩
    simp only [bSortdS, hd1]
    refine ⟨ks, ek, by omega, fun q ys hq pm => ?_⟩
    have hy : ∀ m ∈ ys, m ∈ ks := fun m hm => pm.mem_iff.mp hm
    simp only [up_same]
    have nq := ne_free' K1.hp hq
    have K2 : Kpp CK f (up G1 q (.lst (ys.map W.str))) p I En [] 0 g1 g2 g3 := ⟨by rw [up_ne nq]; exact K1.hp, by rw [up_ne (ne_free' K1.hI hq)]; exact K1.hI, by rw [up_ne (ne_free' K1.hE hq)]; exact K1.hE, K1.pI, K1.pE, K1.IE, K1.io⟩
    have old2 : ∀ b o, G b = some o → up G1 q (.lst (ys.map W.str)) b = some o ∧ b ≠ p ∧ b ≠ I ∧ b ≠ En := fun b o e => by
      obtain ⟨a, r⟩ := old1 b o e
      exact ⟨by rw [up_ne (ne_free' a hq)]; exact a, r⟩
    refine ⟨f, I, En, [], 0, g1, g2, g3, K2, rfl, okD_strs fun m hm => nameOk_okD (hk m (hy m hm)).1, by simp, fun G3 inp3 rev3 K3 l3 out3 => ?_⟩
    have old3 : ∀ b o, G b = some o → G3 b = some o ∧ b ≠ p ∧ b ≠ I ∧ b ≠ En := fun b o e => by
      obtain ⟨a, r⟩ := old2 b o e
      exact ⟨by rw [out3 b r.1 r.2.1]; exact a, r⟩
    -- the texts
    have hp3 := K3.hp
    have hd3 := (old3 _ _ hd).1
    simp only [bSortdS, hd3]
    refine ⟨ks, ek, by omega, fun q4 zs hq4 pm4 => ?_⟩
    have hz : ∀ m ∈ zs, m ∈ ks := fun m hm => pm4.mem_iff.mp hm
    have zl : zs.length ≤ 10 := by rw [pm4.length_eq]; exact kl
    simp only [items, up_same]
    refine ⟨rfl, _, rfl, ?_⟩
    have K4 : Kpp CK f (up G3 q4 (.lst (zs.map W.str))) p I En inp3 rev3 g1 g2 g3 := ⟨by rw [up_ne (ne_free' K3.hp hq4)]; exact K3.hp, by rw [up_ne (ne_free' K3.hI hq4)]; exact K3.hI, by rw [up_ne (ne_free' K3.hE hq4)]; exact K3.hE, K3.pI, K3.pE, K3.IE, K3.io⟩
    have old4 : ∀ b o, G b = some o → up G3 q4 (.lst (zs.map W.str)) b = some o ∧ b ≠ p ∧ b ≠ I ∧ b ≠ En := fun b o e => by
      obtain ⟨a, r⟩ := old3 b o e
      exact ⟨by rw [up_ne (ne_free' a hq4)]; exact a, r⟩
    have q4p := ne_free K3.hp hq4
    have q4I := ne_free K3.hI hq4
    have l3' : inp3.length ≤ 1 := l3
    refine forX_ind zs W.str (fun i γ K => ∃ y inp rev, γ = [some (.ref d), some (.ref p), y] ∧ Kpp CK f K p I En inp rev g1 g2 g3 ∧ inp.length ≤ 1 + i ∧ K q4 = some (.lst (zs.map W.str)) ∧ ∀ b o, G b = some o → K b = some o ∧ b ≠ p ∧ b ≠ I ∧ b ≠ En) ?_ ?_ ?_ _ _ ⟨_, inp3, rev3, rfl, K4, by omega, up_same, old4⟩
    · rintro i γ K hi ⟨y, inp, rev, rfl, K5, l5, e5, old5⟩
      simp only [items, e5]
    · rintro γ K ⟨y, inp, rev, rfl, K5, l5, e5, old5⟩
      simp only [startF, sSeq, sSet, sRet, sRetN, sIf, sNext, sDrop, sAsg, sAug, sBrk, sCnt, sThrow, sFld, sFldAug, sPutA, sDput, sFor, iVal, iRng1, iRng2, tV, tTru, tAnd, tOr, tNot, eVar, eC, eOp, eUn, eIf, eAnd, eOr, eNot, eCh, eCh3, eCall, eBlt, eMet, eMakeX, eCallV, eFld, asIns, eTup, eLst, eDnewT, eDnew, eBm, tyW, aCons, aNil, aCs, eFS, eFmt, eJs_nil, eJs_cons, eSl, oNo, oPart, eDget1, eDget2, eDpop1, eDpop2, eDsetd, isDW, isDM, popK, popD, dictOf, rAt, rIx, rDget, rInD, rNotInD, rInB, rIn, rNotIn, rInA, rEq, rNe, eqA, rLt, rLe, rGt, rGe, rIs, rIsNot, rIsL, rIsLN, rAdd, rSub, rMod, rNeg, rIadd, rSl, isN_non, isN_bl, isN_int, isN_str, isN_ref, isN_tup, gName, gTup, gCons, gNil, truth, bLen, bAbs, bMin, bMax, bInt, bSum, bTuple, bList, bIsi, clsN, mAppend, mPop, mExtend, mReplaceL, rEqN, rNeN, rNeM, rEqE, rNeE, rInS2, eRev, get_zero, get_succ, put_zero, put_succ, del_zero, del_succ, nthW_zero, nthW_succ, setF_nil, setF_zero, setF_succ, Option.map_some, List.getElem?_cons_zero, List.getElem?_cons_succ, List.map_cons, List.map_nil, List.cons_append, List.nil_append, List.length_cons, List.length_nil, List.replicate, Bool.not_true, Bool.not_false, Bool.false_eq_true, if_false, if_true]
      exact k _ _ _ _ _ _ _ _ _ K5 (by omega) old5
    · rintro i m γ K hm ⟨y, inp, rev, rfl, K5, l5, e5, old5⟩ F hF
      have il := (List.getElem?_eq_some_iff.mp hm).1
      obtain ⟨nm, s, es, sl, so⟩ := hk m (hz m (List.mem_of_getElem? hm))
      have hd5 := (old5 _ _ hd).1
      simp only [gName, rd_new_keeper_b0, startF, sSeq, sSet, sRet, sRetN, sIf, sNext, sDrop, sAsg, sAug, sBrk, sCnt, sThrow, sFld, sFldAug, sPutA, sDput, sFor, iVal, iRng1, iRng2, tV, tTru, tAnd, tOr, tNot, eVar, eC, eOp, eUn, eIf, eAnd, eOr, eNot, eCh, eCh3, eCall, eBlt, eMet, eMakeX, eCallV, eFld, asIns, eTup, eLst, eDnewT, eDnew, eBm, tyW, aCons, aNil, aCs, eFS, eFmt, eJs_nil, eJs_cons, eSl, oNo, oPart, eDget1, eDget2, eDpop1, eDpop2, eDsetd, isDW, isDM, popK, popD, dictOf, rAt, rIx, rDget, rInD, rNotInD, rInB, rIn, rNotIn, rInA, rEq, rNe, eqA, rLt, rLe, rGt, rGe, rIs, rIsNot, rIsL, rIsLN, rAdd, rSub, rMod, rNeg, rIadd, rSl, isN_non, isN_bl, isN_int, isN_str, isN_ref, isN_tup, gName, gTup, gCons, gNil, truth, bLen, bAbs, bMin, bMax, bInt, bSum, bTuple, bList, bIsi, clsN, mAppend, mPop, mExtend, mReplaceL, rEqN, rNeN, rNeM, rEqE, rNeE, rInS2, eRev, get_zero, get_succ, put_zero, put_succ, del_zero, del_succ, nthW_zero, nthW_succ, setF_nil, setF_zero, setF_succ, Option.map_some, List.getElem?_cons_zero, List.getElem?_cons_succ, List.map_cons, List.map_nil, List.cons_append, List.nil_append, List.length_cons, List.length_nil, List.replicate, Bool.not_true, Bool.not_false, Bool.false_eq_true, if_false, if_true, K5.hp, hd5, es, true_and]
      refine ⟨by decide, rfl, f, I, En, inp, rev, g1, g2, g3, K5, rfl, okT_okD so, by omega, fun G6 inp6 rev6 K6 l6 out6 => ?_⟩
      refine hF _ _ ⟨_, inp6, rev6, rfl, K6, by omega, by rw [out6 q4 q4p q4I]; exact e5, fun b o e => ?_⟩
      obtain ⟨a, r⟩ := old5 b o e
      exact ⟨by rw [out6 b r.1 r.2.1]; exact a, r⟩
  · exact h.elim

/-! ### k29: the server's state -/
inductive Rs where
  | sv | tx | kp | I | En | dn | un
structure Stp where
  m : List Nat
  a : Int
  b : Int
  new : List Nat
def edW (s : Stp) : W := .tup [.int s.a, .int s.b, .str s.new]
def stW (s : Stp) : W := .tup [.str s.m, edW s]
structure SS where
  texts : Mp
  inp : Mp
  rev : Int
  g1 : W
  g2 : W
  g3 : W
  done : List (Nat × Stp)
  undone : List (Nat × Stp)
abbrev refsL (l : List (Nat × Stp)) : O := .lst (l.map fun x => .ref x.1)
def contS (CS CK f : Nat) (S : SS) (α : Rs → Nat) : Rs → O
  | .sv => .ins CS ns_Server [.ref (α .tx), .ref (α .kp), .ref (α .dn), .ref (α .un)]
  | .tx => .dct S.texts
  | .kp => .ins CK ns_Keeper [.ref f, .ref (α .I), .ref (α .En), .int S.rev, .non, S.g1, S.g2, S.g3]
  | .I => .dtt S.inp
  | .En => .dtt []
  | .dn => refsL S.done
  | .un => refsL S.undone
structure Ksv (CS CK f : Nat) (G : Gh) (S : SS) (α : Rs → Nat) : Prop where
  inj : ∀ r r', α r = α r' → r = r'
  at_ : ∀ r, G (α r) = some (contS CS CK f S α r)
  io : okI S.inp
  st : ∀ x, x ∈ S.done ∨ x ∈ S.undone → G x.1 = some (.lst [stW x.2]) ∧ ∀ r, α r ≠ x.1
/-- what is not the server's stays, and stays not the server's -/
def Frs (G : Gh) (α : Rs → Nat) (G' : Gh) (α' : Rs → Nat) : Prop := α' .sv = α .sv ∧ ∀ b o, (∀ r, α r ≠ b) → G b = some o → G' b = some o ∧ ∀ r, α' r ≠ b
theorem Frs.trans {G G1 G2 : Gh} {α α1 α2 : Rs → Nat} (a : Frs G α G1 α1) (b : Frs G1 α1 G2 α2) : Frs G α G2 α2 := ⟨b.1.trans a.1, fun c o h e => by
  obtain ⟨x, y⟩ := a.2 c o h e
  exact b.2 c o y x⟩
theorem Frs.le {G G' : Gh} {α : Rs → Nat} (l : Le G G') : Frs G α G' α := ⟨rfl, fun b o h e => ⟨l _ _ e, h⟩⟩
section
variable {CS CK f : Nat} {G G' : Gh} {S : SS} {α : Rs → Nat}
theorem Ksv.le (K : Ksv CS CK f G S α) (l : Le G G') : Ksv CS CK f G' S α := ⟨K.inj, fun r => l _ _ (K.at_ r), K.io, fun x hx => ⟨l _ _ (K.st x hx).1, (K.st x hx).2⟩⟩
theorem Ksv.ne (K : Ksv CS CK f G S α) {r r' : Rs} (h : r ≠ r') : α r ≠ α r' := fun e => h (K.inj _ _ e)
theorem Ksv.free (K : Ksv CS CK f G S α) {q : Nat} (hq : G q = none) (r : Rs) : α r ≠ q := ne_free' (K.at_ r) hq
theorem Ksv.hv (K : Ksv CS CK f G S α) : G (α .sv) = some (.ins CS ns_Server [.ref (α .tx), .ref (α .kp), .ref (α .dn), .ref (α .un)]) := K.at_ .sv
theorem Ksv.ht (K : Ksv CS CK f G S α) : G (α .tx) = some (.dct S.texts) := K.at_ .tx
theorem Ksv.hd (K : Ksv CS CK f G S α) : G (α .dn) = some (refsL S.done) := K.at_ .dn
theorem Ksv.hu (K : Ksv CS CK f G S α) : G (α .un) = some (refsL S.undone) := K.at_ .un
theorem Ksv.kpp (K : Ksv CS CK f G S α) : Kpp CK f G (α .kp) (α .I) (α .En) S.inp S.rev S.g1 S.g2 S.g3 := ⟨K.at_ .kp, K.at_ .I, K.at_ .En, K.ne (by simp), K.ne (by simp), K.ne (by simp), K.io⟩
theorem Ksv.upd (K : Ksv CS CK f G S α) {S' : SS} (at' : ∀ r, G' (α r) = some (contS CS CK f S' α r)) (out : ∀ b o, (∀ r, α r ≠ b) → G b = some o → G' b = some o) (io : okI S'.inp) (ds : ∀ x, x ∈ S'.done ∨ x ∈ S'.undone → G x.1 = some (.lst [stW x.2]) ∧ ∀ r, α r ≠ x.1) :
    Ksv CS CK f G' S' α ∧ Frs G α G' α := ⟨⟨K.inj, at', io, fun x hx => ⟨out _ _ (ds x hx).2 (ds x hx).1, (ds x hx).2⟩⟩, rfl, fun b o h e => ⟨out b o h e, h⟩⟩
theorem Ksv.putted (K : Ksv CS CK f G S α) {inp : Mp} {rev : Int} (P : Kpp CK f G' (α .kp) (α .I) (α .En) inp rev S.g1 S.g2 S.g3) (out : ∀ b, b ≠ α .kp → b ≠ α .I → G' b = G b) : Ksv CS CK f G' { S with inp := inp, rev := rev } α ∧ Frs G α G' α := by
  refine K.upd (S' := { S with inp := inp, rev := rev }) (fun r => ?_) (fun b o h e => (out b (h .kp).symm (h .I).symm).trans e) P.io K.st
  cases r with
  | kp => exact P.hp
  | I => exact P.hI
  | En => exact P.hE
  | sv => exact (out _ (K.ne (by simp)) (K.ne (by simp))).trans (K.at_ .sv)
  | tx => exact (out _ (K.ne (by simp)) (K.ne (by simp))).trans (K.at_ .tx)
  | dn => exact (out _ (K.ne (by simp)) (K.ne (by simp))).trans (K.at_ .dn)
  | un => exact (out _ (K.ne (by simp)) (K.ne (by simp))).trans (K.at_ .un)
theorem Ksv.role (K : Ksv CS CK f G S α) {S' : SS} {r : Rs} {o : O} (hr : o = contS CS CK f S' α r) (hs : ∀ r', r' ≠ r → contS CS CK f S' α r' = contS CS CK f S α r') (io : okI S'.inp) (ds : ∀ x, x ∈ S'.done ∨ x ∈ S'.undone → G x.1 = some (.lst [stW x.2]) ∧ ∀ r, α r ≠ x.1) :
    Ksv CS CK f (up G (α r) o) S' α ∧ Frs G α (up G (α r) o) α := by
  refine K.upd (fun r' => ?_) (fun b o h e => (up_ne (h r).symm).trans e) io ds
  by_cases e : α r' = α r
  · have := K.inj _ _ e
    subst this
    rw [up_same, hr]
  · rw [up_ne e, hs r' (fun z => e (by rw [z]))]
    exact K.at_ r'
theorem Ksv.texts_ (K : Ksv CS CK f G S α) (l : Mp) : Ksv CS CK f (up G (α .tx) (.dct l)) { S with texts := l } α ∧ Frs G α (up G (α .tx) (.dct l)) α :=
  K.role (S' := { S with texts := l }) (r := .tx) rfl (fun r h => by cases r <;> first | exact absurd rfl h | rfl) K.io K.st
theorem Ksv.dones (K : Ksv CS CK f G S α) (l : List (Nat × Stp)) (hl : ∀ x ∈ l, G x.1 = some (.lst [stW x.2]) ∧ ∀ r, α r ≠ x.1) : Ksv CS CK f (up G (α .dn) (refsL l)) { S with done := l } α ∧ Frs G α (up G (α .dn) (refsL l)) α :=
  K.role (S' := { S with done := l }) (r := .dn) rfl (fun r h => by cases r <;> first | exact absurd rfl h | rfl) K.io fun x hx => hx.elim (hl x) fun h => K.st x (.inr h)
theorem Ksv.undones (K : Ksv CS CK f G S α) (l : List (Nat × Stp)) (hl : ∀ x ∈ l, G x.1 = some (.lst [stW x.2]) ∧ ∀ r, α r ≠ x.1) : Ksv CS CK f (up G (α .un) (refsL l)) { S with undone := l } α ∧ Frs G α (up G (α .un) (refsL l)) α :=
  K.role (S' := { S with undone := l }) (r := .un) rfl (fun r h => by cases r <;> first | exact absurd rfl h | rfl) K.io fun x hx => hx.elim (fun h => K.st x (.inl h)) (hl x)
def setUn (α : Rs → Nat) (q : Nat) : Rs → Nat
  | .un => q
  | .sv => α .sv
  | .tx => α .tx
  | .kp => α .kp
  | .I => α .I
  | .En => α .En
  | .dn => α .dn
def setDn (α : Rs → Nat) (q : Nat) : Rs → Nat
  | .dn => q
  | .sv => α .sv
  | .tx => α .tx
  | .kp => α .kp
  | .I => α .I
  | .En => α .En
  | .un => α .un
/-- the role k stands at a new place -/
theorem Ksv.moved (K : Ksv CS CK f G S α) {q : Nat} (hq : G q = none) {β : Rs → Nat} {k : Rs} (hk : k ≠ .sv) (hb : ∀ r, r ≠ k → β r = α r) (hbk : β k = q) {S' : SS} (ho : contS CS CK f S' β k = .lst []) (hs : ∀ r, r ≠ k → r ≠ .sv → contS CS CK f S' β r = contS CS CK f S α r) (io : okI S'.inp) (ds : ∀ x, x ∈ S'.done ∨ x ∈ S'.undone → x ∈ S.done ∨ x ∈ S.undone) :
    Ksv CS CK f (up (up G q (.lst [])) (α .sv) (contS CS CK f S' β .sv)) S' β ∧ Frs G α (up (up G q (.lst [])) (α .sv) (contS CS CK f S' β .sv)) β := by
  have fr := fun r => K.free hq r
  have hbs : β .sv = α .sv := hb _ (fun h => hk h.symm)
  have out : ∀ b o, b ≠ α .sv → G b = some o → up (up G q (.lst [])) (α .sv) (contS CS CK f S' β .sv) b = some o := fun b o h e => by rw [up_ne h, up_ne (ne_free' e hq)]; exact e
  have nk : ∀ x, (∀ r, α r ≠ x) → x ≠ q → ∀ r, β r ≠ x := fun x hx hxq r => by
    by_cases e : r = k
    · rw [e, hbk]; exact hxq.symm
    · rw [hb r e]; exact hx r
  refine ⟨⟨fun r r' e => ?_, fun r => ?_, io, fun x hx => ?_⟩, hbs, fun b o h e => ⟨out b o (h .sv).symm e, nk b h (ne_free' e hq)⟩⟩
  · by_cases e1 : r = k
    · by_cases e2 : r' = k
      · rw [e1, e2]
      · rw [e1, hbk, hb r' e2] at e; exact absurd e.symm (fr r')
    · by_cases e2 : r' = k
      · rw [e2, hbk, hb r e1] at e; exact absurd e (fr r)
      · rw [hb r e1, hb r' e2] at e; exact K.inj _ _ e
  · by_cases e1 : r = k
    · rw [e1, hbk, up_ne (fr .sv).symm, up_same, ho]
    · rw [hb r e1]
      by_cases e2 : r = .sv
      · rw [e2, up_same]
      · rw [up_ne (K.ne e2), up_ne (fr r), hs r e1 e2]
        exact K.at_ r
  · obtain ⟨a, b⟩ := K.st x (ds x hx)
    exact ⟨out _ _ (b .sv).symm a, nk _ b (ne_free' a hq)⟩
theorem Ksv.newun (K : Ksv CS CK f G S α) {q : Nat} (hq : G q = none) : Ksv CS CK f (up (up G q (.lst [])) (α .sv) (.ins CS ns_Server [.ref (α .tx), .ref (α .kp), .ref (α .dn), .ref q])) { S with undone := [] } (setUn α q) ∧ Frs G α (up (up G q (.lst [])) (α .sv) (.ins CS ns_Server [.ref (α .tx), .ref (α .kp), .ref (α .dn), .ref q])) (setUn α q) :=
  K.moved hq (β := setUn α q) (k := .un) (S' := { S with undone := [] }) (by simp) (fun r h => by cases r <;> first | exact absurd rfl h | rfl) rfl rfl (fun r h1 h2 => by cases r <;> first | exact absurd rfl h1 | exact absurd rfl h2 | rfl) K.io fun x hx => hx.elim .inl fun h => nomatch h
theorem Ksv.newdn (K : Ksv CS CK f G S α) {q : Nat} (hq : G q = none) : Ksv CS CK f (up (up G q (.lst [])) (α .sv) (.ins CS ns_Server [.ref (α .tx), .ref (α .kp), .ref q, .ref (α .un)])) { S with done := [] } (setDn α q) ∧ Frs G α (up (up G q (.lst [])) (α .sv) (.ins CS ns_Server [.ref (α .tx), .ref (α .kp), .ref q, .ref (α .un)])) (setDn α q) :=
  K.moved hq (β := setDn α q) (k := .dn) (S' := { S with done := [] }) (by simp) (fun r h => by cases r <;> first | exact absurd rfl h | rfl) rfl rfl (fun r h1 h2 => by cases r <;> first | exact absurd rfl h1 | exact absurd rfl h2 | rfl) K.io fun x hx => hx.elim (fun h => nomatch h) .inr
end

/-! ### k29: the server's methods -/
abbrev KD := Nat × Nat × Nat
/-- how a server begins and ends in a promise -/
def sp_prog (CS CK f : Nat) : Sp := fun ws G Q _ => match ws with
  | [.ref v] => ∃ S α, α .sv = v ∧ Ksv CS CK f G S α ∧ ∀ p, G p = none → Q (.ref p) (up G p (.dct S.texts))
  | _ => False
theorem mono_prog (CS CK f : Nat) : Mono (sp_prog CS CK f) := by
  intro ws G Q Q' E E' hq he h
  unfold sp_prog at h ⊢
  split at h
  · obtain ⟨S, α, a, b, k⟩ := h
    exact ⟨S, α, a, b, fun p x => hq _ _ (k p x)⟩
  · exact h.elim
theorem len_prog (CS CK f : Nat) (ws : List W) (G : Gh) (Q : QV) (E : XQ) (h : sp_prog CS CK f ws G Q E) : ws.length = 1 := by
  unfold sp_prog at h
  split at h
  · rfl
  · exact h.elim
theorem vc_prog (CS CK f : Nat) (ws : List W) (G : Gh) (Q : QV) (E : XQ) (fg : Fgt Q E) (h : sp_prog CS CK f ws G Q E) : rd_Server_program CS { nx := fun _ G' => Q .non G', rt := Q, ex := fun _ => E } (startF 1 ws) G := by
  unfold sp_prog at h
  split at h
  · obtain ⟨S, α, rfl, K, k⟩ := h
    simp only [rd_Server_program, startF, sSeq, sSet, sRet, sRetN, sIf, sNext, sDrop, sAsg, sAug, sBrk, sCnt, sThrow, sFld, sFldAug, sPutA, sDput, sFor, iVal, iRng1, iRng2, tV, tTru, tAnd, tOr, tNot, eVar, eC, eOp, eUn, eIf, eAnd, eOr, eNot, eCh, eCh3, eCall, eBlt, eMet, eMakeX, eCallV, eFld, asIns, eTup, eLst, eDnewT, eDnew, eBm, tyW, aCons, aNil, aCs, eFS, eFmt, eJs_nil, eJs_cons, eSl, oNo, oPart, eDget1, eDget2, eDpop1, eDpop2, eDsetd, isDW, isDM, popK, popD, dictOf, rAt, rIx, rDget, rInD, rNotInD, rInB, rIn, rNotIn, rInA, rEq, rNe, eqA, rLt, rLe, rGt, rGe, rIs, rIsNot, rIsL, rIsLN, rAdd, rSub, rMod, rNeg, rIadd, rSl, isN_non, isN_bl, isN_int, isN_str, isN_ref, isN_tup, gName, gTup, gCons, gNil, truth, bLen, bAbs, bMin, bMax, bInt, bSum, bTuple, bList, bIsi, clsN, mAppend, mPop, mExtend, mReplaceL, rEqN, rNeN, rNeM, rEqE, rNeE, rInS2, eRev, get_zero, get_succ, put_zero, put_succ, del_zero, del_succ, nthW_zero, nthW_succ, setF_nil, setF_zero, setF_succ, Option.map_some, List.getElem?_cons_zero, List.getElem?_cons_succ, List.map_cons, List.map_nil, List.cons_append, List.nil_append, List.length_cons, List.length_nil, List.replicate, Bool.not_true, Bool.not_false, Bool.false_eq_true, if_false, if_true, bDict, K.hv, K.ht, true_and]
    exact k
  · exact h.elim
def sp_mods (CS CK f : Nat) : Sp := fun ws G Q _ => match ws with
  | [.ref v] => ∃ (S : SS) (α : Rs → Nat) (ks : List (List Nat)), α .sv = v ∧ Ksv CS CK f G S α ∧ S.texts.map (·.1) = ks.map W.str ∧ ks.length < 64 ∧ ∀ (p : Nat) (ys : List (List Nat)), G p = none → ys.Perm ks → Q (.ref p) (up G p (.lst (ys.map W.str)))
  | _ => False
theorem mono_mods (CS CK f : Nat) : Mono (sp_mods CS CK f) := by
  intro ws G Q Q' E E' hq he h
  unfold sp_mods at h ⊢
  split at h
  · obtain ⟨S, α, ks, a, b, c, d, k⟩ := h
    exact ⟨S, α, ks, a, b, c, d, fun p y x z => hq _ _ (k p y x z)⟩
  · exact h.elim
theorem len_mods (CS CK f : Nat) (ws : List W) (G : Gh) (Q : QV) (E : XQ) (h : sp_mods CS CK f ws G Q E) : ws.length = 1 := by
  unfold sp_mods at h
  split at h
  · rfl
  · exact h.elim
theorem vc_mods (CS CK f : Nat) (ws : List W) (G : Gh) (Q : QV) (E : XQ) (fg : Fgt Q E) (h : sp_mods CS CK f ws G Q E) : rd_Server_modules CS { nx := fun _ G' => Q .non G', rt := Q, ex := fun _ => E } (startF 1 ws) G := by
  unfold sp_mods at h
  split at h
  · obtain ⟨S, α, ks, rfl, K, e, hl, k⟩ := h
    simp only [rd_Server_modules, startF, sSeq, sSet, sRet, sRetN, sIf, sNext, sDrop, sAsg, sAug, sBrk, sCnt, sThrow, sFld, sFldAug, sPutA, sDput, sFor, iVal, iRng1, iRng2, tV, tTru, tAnd, tOr, tNot, eVar, eC, eOp, eUn, eIf, eAnd, eOr, eNot, eCh, eCh3, eCall, eBlt, eMet, eMakeX, eCallV, eFld, asIns, eTup, eLst, eDnewT, eDnew, eBm, tyW, aCons, aNil, aCs, eFS, eFmt, eJs_nil, eJs_cons, eSl, oNo, oPart, eDget1, eDget2, eDpop1, eDpop2, eDsetd, isDW, isDM, popK, popD, dictOf, rAt, rIx, rDget, rInD, rNotInD, rInB, rIn, rNotIn, rInA, rEq, rNe, eqA, rLt, rLe, rGt, rGe, rIs, rIsNot, rIsL, rIsLN, rAdd, rSub, rMod, rNeg, rIadd, rSl, isN_non, isN_bl, isN_int, isN_str, isN_ref, isN_tup, gName, gTup, gCons, gNil, truth, bLen, bAbs, bMin, bMax, bInt, bSum, bTuple, bList, bIsi, clsN, mAppend, mPop, mExtend, mReplaceL, rEqN, rNeN, rNeM, rEqE, rNeE, rInS2, eRev, get_zero, get_succ, put_zero, put_succ, del_zero, del_succ, nthW_zero, nthW_succ, setF_nil, setF_zero, setF_succ, Option.map_some, List.getElem?_cons_zero, List.getElem?_cons_succ, List.map_cons, List.map_nil, List.cons_append, List.nil_append, List.length_cons, List.length_nil, List.replicate, Bool.not_true, Bool.not_false, Bool.false_eq_true, if_false, if_true, bSortdS, K.hv, K.ht, true_and]
    exact ⟨ks, e, hl, k⟩
  · exact h.elim
def sp_needf (CS CK f CU : Nat) : Sp := fun ws G Q E => match ws with
  | [.ref v, .str m] => ∃ S α, α .sv = v ∧ Ksv CS CK f G S α ∧ (has S.texts (.str m) = true → Q .non G) ∧ (has S.texts (.str m) = false → E (.ref CU) [] G)
  | _ => False
theorem mono_needf (CS CK f CU : Nat) : Mono (sp_needf CS CK f CU) := by
  intro ws G Q Q' E E' hq he h
  unfold sp_needf at h ⊢
  split at h
  · obtain ⟨S, α, a, b, c, d⟩ := h
    exact ⟨S, α, a, b, fun e => hq _ _ (c e), fun e => he _ _ _ (d e)⟩
  · exact h.elim
theorem len_needf (CS CK f CU : Nat) (ws : List W) (G : Gh) (Q : QV) (E : XQ) (h : sp_needf CS CK f CU ws G Q E) : ws.length = 2 := by
  unfold sp_needf at h
  split at h
  · rfl
  · exact h.elim
theorem vc_needf (CS CK f CU : Nat) (ws : List W) (G : Gh) (Q : QV) (E : XQ) (fg : Fgt Q E) (h : sp_needf CS CK f CU ws G Q E) : rd_Server_need_file CS CU { nx := fun _ G' => Q .non G', rt := Q, ex := fun _ => E } (startF 2 ws) G := by
  unfold sp_needf at h
  split at h
  · obtain ⟨S, α, rfl, K, k1, k2⟩ := h
    simp only [rd_Server_need_file, startF, sSeq, sSet, sRet, sRetN, sIf, sNext, sDrop, sAsg, sAug, sBrk, sCnt, sThrow, sFld, sFldAug, sPutA, sDput, sFor, iVal, iRng1, iRng2, tV, tTru, tAnd, tOr, tNot, eVar, eC, eOp, eUn, eIf, eAnd, eOr, eNot, eCh, eCh3, eCall, eBlt, eMet, eMakeX, eCallV, eFld, asIns, eTup, eLst, eDnewT, eDnew, eBm, tyW, aCons, aNil, aCs, eFS, eFmt, eJs_nil, eJs_cons, eSl, oNo, oPart, eDget1, eDget2, eDpop1, eDpop2, eDsetd, isDW, isDM, popK, popD, dictOf, rAt, rIx, rDget, rInD, rNotInD, rInB, rIn, rNotIn, rInA, rEq, rNe, eqA, rLt, rLe, rGt, rGe, rIs, rIsNot, rIsL, rIsLN, rAdd, rSub, rMod, rNeg, rIadd, rSl, isN_non, isN_bl, isN_int, isN_str, isN_ref, isN_tup, gName, gTup, gCons, gNil, truth, bLen, bAbs, bMin, bMax, bInt, bSum, bTuple, bList, bIsi, clsN, mAppend, mPop, mExtend, mReplaceL, rEqN, rNeN, rNeM, rEqE, rNeE, rInS2, eRev, get_zero, get_succ, put_zero, put_succ, del_zero, del_succ, nthW_zero, nthW_succ, setF_nil, setF_zero, setF_succ, Option.map_some, List.getElem?_cons_zero, List.getElem?_cons_succ, List.map_cons, List.map_nil, List.cons_append, List.nil_append, List.length_cons, List.length_nil, List.replicate, Bool.not_true, Bool.not_false, Bool.false_eq_true, if_false, if_true, K.hv, K.ht, true_and]
    refine ⟨rfl, ?_⟩
    cases e : has S.texts _ with
    | true => simp only [Bool.not_true, Bool.false_eq_true, if_false]; exact k1 e
    | false => simp only [Bool.not_false, if_true]; exact k2 e
  · exact h.elim
/-- forget_steps -/
def sp_fgt (CS CK f : Nat) : Sp := fun ws G Q _ => match ws with
  | [.ref v] => ∃ S α, α .sv = v ∧ Ksv CS CK f G S α ∧ ∀ G' α', Ksv CS CK f G' { S with done := [], undone := [] } α' → Frs G α G' α' → Q .non G'
  | _ => False
theorem mono_fgt (CS CK f : Nat) : Mono (sp_fgt CS CK f) := by
  intro ws G Q Q' E E' hq he h
  unfold sp_fgt at h ⊢
  split at h
  · obtain ⟨S, α, a, b, k⟩ := h
    exact ⟨S, α, a, b, fun G' α' x y => hq _ _ (k G' α' x y)⟩
  · exact h.elim
theorem len_fgt (CS CK f : Nat) (ws : List W) (G : Gh) (Q : QV) (E : XQ) (h : sp_fgt CS CK f ws G Q E) : ws.length = 1 := by
  unfold sp_fgt at h
  split at h
  · rfl
  · exact h.elim
theorem vc_fgt (CS CK f : Nat) (ws : List W) (G : Gh) (Q : QV) (E : XQ) (fg : Fgt Q E) (h : sp_fgt CS CK f ws G Q E) : rd_Server_forget_steps CS { nx := fun _ G' => Q .non G', rt := Q, ex := fun _ => E } (startF 1 ws) G := by
  unfold sp_fgt at h
  split at h
  · obtain ⟨S, α, rfl, K, k⟩ := h
    simp only [rd_Server_forget_steps, startF, sSeq, sSet, sRet, sRetN, sIf, sNext, sDrop, sAsg, sAug, sBrk, sCnt, sThrow, sFld, sFldAug, sPutA, sDput, sFor, iVal, iRng1, iRng2, tV, tTru, tAnd, tOr, tNot, eVar, eC, eOp, eUn, eIf, eAnd, eOr, eNot, eCh, eCh3, eCall, eBlt, eMet, eMakeX, eCallV, eFld, asIns, eTup, eLst, eDnewT, eDnew, eBm, tyW, aCons, aNil, aCs, eFS, eFmt, eJs_nil, eJs_cons, eSl, oNo, oPart, eDget1, eDget2, eDpop1, eDpop2, eDsetd, isDW, isDM, popK, popD, dictOf, rAt, rIx, rDget, rInD, rNotInD, rInB, rIn, rNotIn, rInA, rEq, rNe, eqA, rLt, rLe, rGt, rGe, rIs, rIsNot, rIsL, rIsLN, rAdd, rSub, rMod, rNeg, rIadd, rSl, isN_non, isN_bl, isN_int, isN_str, isN_ref, isN_tup, gName, gTup, gCons, gNil, truth, bLen, bAbs, bMin, bMax, bInt, bSum, bTuple, bList, bIsi, clsN, mAppend, mPop, mExtend, mReplaceL, rEqN, rNeN, rNeM, rEqE, rNeE, rInS2, eRev, get_zero, get_succ, put_zero, put_succ, del_zero, del_succ, nthW_zero, nthW_succ, setF_nil, setF_zero, setF_succ, Option.map_some, List.getElem?_cons_zero, List.getElem?_cons_succ, List.map_cons, List.map_nil, List.cons_append, List.nil_append, List.length_cons, List.length_nil, List.replicate, Bool.not_true, Bool.not_false, Bool.false_eq_true, if_false, if_true, K.hv, true_and]
    refine ⟨by decide, fun q hq => ?_⟩
    obtain ⟨K2, F2⟩ := K.newdn hq
    have e1 : up G q (.lst []) (α .sv) = _ := (up_ne (K.free hq .sv)).trans K.hv
    simp only [e1, true_and, setF_succ, setF_zero, Option.map_some]
    generalize up (up G q (.lst [])) (α .sv) _ = G2 at K2 F2 ⊢
    refine ⟨by decide, fun q3 hq3 => ?_⟩
    obtain ⟨K3, F3⟩ := K2.newun hq3
    have n3 := K2.free hq3 .sv
    have e2 : setDn α q .sv = α .sv := rfl
    have e3 : up G2 q3 (.lst []) (α .sv) = _ := (up_ne n3).trans K2.hv
    simp only [e3, true_and, setF_succ, setF_zero, Option.map_some]
    exact k _ _ K3 (F2.trans F3)
  · exact h.elim
/-- set_text -/
def sp_sett (CS CK f : Nat) : Sp := fun ws G Q _ => match ws with
  | [.ref v, .str m, .str x] => ∃ S α, α .sv = v ∧ Ksv CS CK f G S α ∧ S.inp.length ≤ 1000 ∧ S.texts.length ≤ 100 ∧ okD DP (.str x) = true ∧
      ∀ G' inp rev, Ksv CS CK f G' { S with texts := putD S.texts (.str m) (.str x), inp := inp, rev := rev } α → Frs G α G' α → inp.length ≤ S.inp.length + 1 → Q .non G'
  | _ => False
theorem mono_sett (CS CK f : Nat) : Mono (sp_sett CS CK f) := by
  intro ws G Q Q' E E' hq he h
  unfold sp_sett at h ⊢
  split at h
  · obtain ⟨S, α, a, b, c, d, e, k⟩ := h
    exact ⟨S, α, a, b, c, d, e, fun G' i r x y z => hq _ _ (k G' i r x y z)⟩
  · exact h.elim
theorem len_sett (CS CK f : Nat) (ws : List W) (G : Gh) (Q : QV) (E : XQ) (h : sp_sett CS CK f ws G Q E) : ws.length = 3 := by
  unfold sp_sett at h
  split at h
  · rfl
  · exact h.elim
theorem vc_sett (CS CK f : Nat) (ws : List W) (G : Gh) (Q : QV) (E : XQ) (fg : Fgt Q E) (h : sp_sett CS CK f ws G Q E) : rd_Server_set_text CS CK (sp_put CK) { nx := fun _ G' => Q .non G', rt := Q, ex := fun _ => E } (startF 3 ws) G := by
  unfold sp_sett at h
  split at h
  · rename_i v m x
    obtain ⟨S, α, rfl, K, hi, ht, hx, k⟩ := h
    have hSZ : SZ = 16777216 := rfl
    simp only [rd_Server_set_text, startF, sSeq, sSet, sRet, sRetN, sIf, sNext, sDrop, sAsg, sAug, sBrk, sCnt, sThrow, sFld, sFldAug, sPutA, sDput, sFor, iVal, iRng1, iRng2, tV, tTru, tAnd, tOr, tNot, eVar, eC, eOp, eUn, eIf, eAnd, eOr, eNot, eCh, eCh3, eCall, eBlt, eMet, eMakeX, eCallV, eFld, asIns, eTup, eLst, eDnewT, eDnew, eBm, tyW, aCons, aNil, aCs, eFS, eFmt, eJs_nil, eJs_cons, eSl, oNo, oPart, eDget1, eDget2, eDpop1, eDpop2, eDsetd, isDW, isDM, popK, popD, dictOf, rAt, rIx, rDget, rInD, rNotInD, rInB, rIn, rNotIn, rInA, rEq, rNe, eqA, rLt, rLe, rGt, rGe, rIs, rIsNot, rIsL, rIsLN, rAdd, rSub, rMod, rNeg, rIadd, rSl, isN_non, isN_bl, isN_int, isN_str, isN_ref, isN_tup, gName, gTup, gCons, gNil, truth, bLen, bAbs, bMin, bMax, bInt, bSum, bTuple, bList, bIsi, clsN, mAppend, mPop, mExtend, mReplaceL, rEqN, rNeN, rNeM, rEqE, rNeE, rInS2, eRev, get_zero, get_succ, put_zero, put_succ, del_zero, del_succ, nthW_zero, nthW_succ, setF_nil, setF_zero, setF_succ, Option.map_some, List.getElem?_cons_zero, List.getElem?_cons_succ, List.map_cons, List.map_nil, List.cons_append, List.nil_append, List.length_cons, List.length_nil, List.replicate, Bool.not_true, Bool.not_false, Bool.false_eq_true, if_false, if_true, K.hv, K.ht, true_and]
    refine ⟨rfl, by omega, ?_⟩
    obtain ⟨K2, F2⟩ := K.texts_ (putD S.texts (.str m) (.str x))
    generalize up G (α .tx) _ = G2 at K2 F2 ⊢
    have e1 := K2.hv
    have e2 := K2.kpp.hp
    simp only [e1, e2, true_and, nthW_succ, nthW_zero]
    refine ⟨by decide, f, _, _, _, _, _, _, _, K2.kpp, rfl, hx, hi, fun G3 inp rev P3 l3 out3 => ?_⟩
    obtain ⟨K3, F3⟩ := K2.putted P3 out3
    exact k G3 inp rev K3 (F2.trans F3) l3
  · exact h.elim
/-! one step -/
def invS (s : Stp) (x : List Nat) : Stp := ⟨s.m, s.a, s.a + s.new.length, (x.drop s.a.toNat).take (s.b.toNat - s.a.toNat)⟩
def newX (s : Stp) (x : List Nat) : List Nat := edited x s.a.toNat s.b.toNat s.new
structure StO (l : Mp) (s : Stp) (x : List Nat) : Prop where
  at_ : look l (.str s.m) = some (.str x)
  fit : fitsE x s.a s.b s.new
  xl : x.length ≤ 4000
  xo : OkT x
  nl : s.new.length ≤ 4000
theorem okT_of_all {l : List Nat} (h : l.all chb = true) : OkT l := List.all_eq_true.mp h
theorem StO.new_ok {l : Mp} {s : Stp} {x : List Nat} (h : StO l s x) : OkT (newX s x) ∧ (newX s x).length ≤ 4000 := ⟨h.xo.edit (okT_of_all h.fit.2.2.2.1), h.fit.2.2.2.2⟩
def sp_dost (CS CK f : Nat) : Sp := fun ws G Q _ => match ws with
  | [.ref v, .ref l] => ∃ S α s x, α .sv = v ∧ Ksv CS CK f G S α ∧ S.inp.length ≤ 1000 ∧ S.texts.length ≤ 100 ∧ G l = some (.lst [stW s]) ∧ (∀ r, α r ≠ l) ∧ StO S.texts s x ∧
      ∀ G' inp rev q, Ksv CS CK f G' { S with texts := putD S.texts (.str s.m) (.str (newX s x)), inp := inp, rev := rev } α → Frs G α G' α → inp.length ≤ S.inp.length + 1 → G' q = some (.lst [stW (invS s x)]) → (∀ r, α r ≠ q) → G q = none → Q (.ref q) G'
  | _ => False
theorem mono_dost (CS CK f : Nat) : Mono (sp_dost CS CK f) := by
  intro ws G Q Q' E E' hq he h
  unfold sp_dost at h ⊢
  split at h
  · obtain ⟨S, α, s, x, a, b, c, d, e, g, i, k⟩ := h
    exact ⟨S, α, s, x, a, b, c, d, e, g, i, fun G' i r q x y z u v w => hq _ _ (k G' i r q x y z u v w)⟩
  · exact h.elim
theorem len_dost (CS CK f : Nat) (ws : List W) (G : Gh) (Q : QV) (E : XQ) (h : sp_dost CS CK f ws G Q E) : ws.length = 2 := by
  unfold sp_dost at h
  split at h
  · rfl
  · exact h.elim
theorem vc_dost (CS CK f CI : Nat) (ws : List W) (G : Gh) (Q : QV) (E : XQ) (fg : Fgt Q E) (h : sp_dost CS CK f ws G Q E) : rd_Server_do_step CS sp_inv (sp_sett CS CK f) (sp_apply CI) { nx := fun _ G' => Q .non G', rt := Q, ex := fun _ => E } (startF 6 ws) G := by
  unfold sp_dost at h
  split at h
  · rename_i v l
    obtain ⟨S, α, s, x, rfl, K, hi, ht, hl, nl, O, k⟩ := h
    have hSZ : SZ = 16777216 := rfl
    simp only [rd_Server_do_step, startF, sSeq, sSet, sRet, sRetN, sIf, sNext, sDrop, sAsg, sAug, sBrk, sCnt, sThrow, sFld, sFldAug, sPutA, sDput, sFor, iVal, iRng1, iRng2, tV, tTru, tAnd, tOr, tNot, eVar, eC, eOp, eUn, eIf, eAnd, eOr, eNot, eCh, eCh3, eCall, eBlt, eMet, eMakeX, eCallV, eFld, asIns, eTup, eLst, eDnewT, eDnew, eBm, tyW, aCons, aNil, aCs, eFS, eFmt, eJs_nil, eJs_cons, eSl, oNo, oPart, eDget1, eDget2, eDpop1, eDpop2, eDsetd, isDW, isDM, popK, popD, dictOf, rAt, rIx, rDget, rInD, rNotInD, rInB, rIn, rNotIn, rInA, rEq, rNe, eqA, rLt, rLe, rGt, rGe, rIs, rIsNot, rIsL, rIsLN, rAdd, rSub, rMod, rNeg, rIadd, rSl, isN_non, isN_bl, isN_int, isN_str, isN_ref, isN_tup, gName, gTup, gCons, gNil, truth, bLen, bAbs, bMin, bMax, bInt, bSum, bTuple, bList, bIsi, clsN, mAppend, mPop, mExtend, mReplaceL, rEqN, rNeN, rNeM, rEqE, rNeE, rInS2, eRev, get_zero, get_succ, put_zero, put_succ, del_zero, del_succ, nthW_zero, nthW_succ, setF_nil, setF_zero, setF_succ, Option.map_some, List.getElem?_cons_zero, List.getElem?_cons_succ, List.map_cons, List.map_nil, List.cons_append, List.nil_append, List.length_cons, List.length_nil, List.replicate, Bool.not_true, Bool.not_false, Bool.false_eq_true, if_false, if_true]
    refine ⟨by decide, fun q hq => ?_⟩
    have lq := ne_free' hl hq
    simp only [items, up_ne lq, hl]
    refine ⟨rfl, _, rfl, ?_⟩
    have l1 : Le G (up G q (.lst [])) := Le.up hq
    have K1 := K.le l1
    have nq := fun r => K.free hq r
    have hl1 : up G q (.lst []) l = some (.lst [stW s]) := by rw [up_ne lq]; exact hl
    refine forX_ind [s] stW (fun i γ G' => ∃ y3 y4 y5, γ = [some (.ref (α .sv)), some (.ref l), some (.ref q), y3, y4, y5] ∧ ((i = 0 ∧ G' = up G q (.lst [])) ∨ (i = 1 ∧ ∃ inp rev, Ksv CS CK f G' { S with texts := putD S.texts (.str s.m) (.str (newX s x)), inp := inp, rev := rev } α ∧ Frs G α G' α ∧ inp.length ≤ S.inp.length + 1 ∧ G' q = some (.lst [stW (invS s x)]) ∧ G' l = some (.lst [stW s])))) ?_ ?_ ?_ _ _ ⟨_, _, _, rfl, .inl ⟨rfl, rfl⟩⟩
    · rintro i γ G' hi2 ⟨y3, y4, y5, rfl, ⟨_, rfl⟩ | ⟨_, inp, rev, _, _, _, _, e⟩⟩
      · simp only [items, hl1]
      · simp only [items, e]
    · rintro γ G' ⟨y3, y4, y5, rfl, ⟨z, _⟩ | ⟨_, inp, rev, K2, F2, l2, e2, _⟩⟩
      · cases z
      · simp only [startF, sSeq, sSet, sRet, sRetN, sIf, sNext, sDrop, sAsg, sAug, sBrk, sCnt, sThrow, sFld, sFldAug, sPutA, sDput, sFor, iVal, iRng1, iRng2, tV, tTru, tAnd, tOr, tNot, eVar, eC, eOp, eUn, eIf, eAnd, eOr, eNot, eCh, eCh3, eCall, eBlt, eMet, eMakeX, eCallV, eFld, asIns, eTup, eLst, eDnewT, eDnew, eBm, tyW, aCons, aNil, aCs, eFS, eFmt, eJs_nil, eJs_cons, eSl, oNo, oPart, eDget1, eDget2, eDpop1, eDpop2, eDsetd, isDW, isDM, popK, popD, dictOf, rAt, rIx, rDget, rInD, rNotInD, rInB, rIn, rNotIn, rInA, rEq, rNe, eqA, rLt, rLe, rGt, rGe, rIs, rIsNot, rIsL, rIsLN, rAdd, rSub, rMod, rNeg, rIadd, rSl, isN_non, isN_bl, isN_int, isN_str, isN_ref, isN_tup, gName, gTup, gCons, gNil, truth, bLen, bAbs, bMin, bMax, bInt, bSum, bTuple, bList, bIsi, clsN, mAppend, mPop, mExtend, mReplaceL, rEqN, rNeN, rNeM, rEqE, rNeE, rInS2, eRev, get_zero, get_succ, put_zero, put_succ, del_zero, del_succ, nthW_zero, nthW_succ, setF_nil, setF_zero, setF_succ, Option.map_some, List.getElem?_cons_zero, List.getElem?_cons_succ, List.map_cons, List.map_nil, List.cons_append, List.nil_append, List.length_cons, List.length_nil, List.replicate, Bool.not_true, Bool.not_false, Bool.false_eq_true, if_false, if_true, e2]
        intro q3 hq3
        have l3 : Le G' (up G' q3 (.lst [stW (invS s x)])) := Le.up hq3
        refine k _ inp rev q3 (K2.le l3) (F2.trans (.le l3)) l2 up_same (fun r => K2.free hq3 r) ?_
        cases e : G q3 with
        | none => rfl
        | some o =>
          by_cases hr : ∀ r, α r ≠ q3
          · have := (F2.2 q3 o hr e).1
            rw [hq3] at this; cases this
          · exact absurd (fun r => K2.free hq3 r) hr
    · rintro i y γ G' hy ⟨y3, y4, y5, rfl, ⟨rfl, rfl⟩ | ⟨rfl, _⟩⟩ F hF
      · cases hy
        simp only [gName, gTup, gCons, gNil, stW, startF, sSeq, sSet, sRet, sRetN, sIf, sNext, sDrop, sAsg, sAug, sBrk, sCnt, sThrow, sFld, sFldAug, sPutA, sDput, sFor, iVal, iRng1, iRng2, tV, tTru, tAnd, tOr, tNot, eVar, eC, eOp, eUn, eIf, eAnd, eOr, eNot, eCh, eCh3, eCall, eBlt, eMet, eMakeX, eCallV, eFld, asIns, eTup, eLst, eDnewT, eDnew, eBm, tyW, aCons, aNil, aCs, eFS, eFmt, eJs_nil, eJs_cons, eSl, oNo, oPart, eDget1, eDget2, eDpop1, eDpop2, eDsetd, isDW, isDM, popK, popD, dictOf, rAt, rIx, rDget, rInD, rNotInD, rInB, rIn, rNotIn, rInA, rEq, rNe, eqA, rLt, rLe, rGt, rGe, rIs, rIsNot, rIsL, rIsLN, rAdd, rSub, rMod, rNeg, rIadd, rSl, isN_non, isN_bl, isN_int, isN_str, isN_ref, isN_tup, gName, gTup, gCons, gNil, truth, bLen, bAbs, bMin, bMax, bInt, bSum, bTuple, bList, bIsi, clsN, mAppend, mPop, mExtend, mReplaceL, rEqN, rNeN, rNeM, rEqE, rNeE, rInS2, eRev, get_zero, get_succ, put_zero, put_succ, del_zero, del_succ, nthW_zero, nthW_succ, setF_nil, setF_zero, setF_succ, Option.map_some, List.getElem?_cons_zero, List.getElem?_cons_succ, List.map_cons, List.map_nil, List.cons_append, List.nil_append, List.length_cons, List.length_nil, List.replicate, Bool.not_true, Bool.not_false, Bool.false_eq_true, if_false, if_true, List.length_cons, List.length_nil, true_and]
        have e1 : up G q (.lst []) (α .sv) = _ := K1.hv
        have e2 : up G q (.lst []) (α .tx) = _ := K1.ht
        simp only [rd_Server_do_step_b0, startF, sSeq, sSet, sRet, sRetN, sIf, sNext, sDrop, sAsg, sAug, sBrk, sCnt, sThrow, sFld, sFldAug, sPutA, sDput, sFor, iVal, iRng1, iRng2, tV, tTru, tAnd, tOr, tNot, eVar, eC, eOp, eUn, eIf, eAnd, eOr, eNot, eCh, eCh3, eCall, eBlt, eMet, eMakeX, eCallV, eFld, asIns, eTup, eLst, eDnewT, eDnew, eBm, tyW, aCons, aNil, aCs, eFS, eFmt, eJs_nil, eJs_cons, eSl, oNo, oPart, eDget1, eDget2, eDpop1, eDpop2, eDsetd, isDW, isDM, popK, popD, dictOf, rAt, rIx, rDget, rInD, rNotInD, rInB, rIn, rNotIn, rInA, rEq, rNe, eqA, rLt, rLe, rGt, rGe, rIs, rIsNot, rIsL, rIsLN, rAdd, rSub, rMod, rNeg, rIadd, rSl, isN_non, isN_bl, isN_int, isN_str, isN_ref, isN_tup, gName, gTup, gCons, gNil, truth, bLen, bAbs, bMin, bMax, bInt, bSum, bTuple, bList, bIsi, clsN, mAppend, mPop, mExtend, mReplaceL, rEqN, rNeN, rNeM, rEqE, rNeE, rInS2, eRev, get_zero, get_succ, put_zero, put_succ, del_zero, del_succ, nthW_zero, nthW_succ, setF_nil, setF_zero, setF_succ, Option.map_some, List.getElem?_cons_zero, List.getElem?_cons_succ, List.map_cons, List.map_nil, List.cons_append, List.nil_append, List.length_cons, List.length_nil, List.replicate, Bool.not_true, Bool.not_false, Bool.false_eq_true, if_false, if_true, e1, e2, O.at_, key1_str, true_and, up_same]
        have xl := O.xl
        have xn := O.nl
        obtain ⟨no, nn⟩ := O.new_ok
        refine ⟨by omega, by omega, O.fit, by decide, ?_⟩
        have e5 : up G q (.lst []) q = some (.lst []) := up_same
        simp only [e5, up_up]
        refine ⟨by decide, ?_⟩
        have l2 : Le G (up G q (.lst [.tup [.str s.m, edW (invS s x)]])) := Le.up hq
        have K2 := K.le l2
        have e3 : up G q (.lst ([] ++ [.tup [.str s.m, edW (invS s x)]])) (α .sv) = _ := K2.hv
        have e4 : edW (invS s x) = W.tup [.int s.a, .int (s.a + s.new.length), .str ((x.drop s.a.toNat).take (s.b.toNat - s.a.toNat))] := rfl
        rw [← e4]
        simp only [e3, true_and]
        refine ⟨by omega, by omega, fun _ => ?_, fun z => absurd O.fit z⟩
        refine ⟨S, α, rfl, K2, hi, ht, okT_okD no, fun G3 inp rev K3 F3 l3 => ?_⟩
        have nqs : up G q (.lst [.tup [.str s.m, edW (invS s x)]]) q = some (.lst [stW (invS s x)]) := up_same
        refine hF _ _ ⟨_, _, _, rfl, .inr ⟨rfl, inp, rev, K3, (Frs.le l2).trans F3, l3, (F3.2 _ _ nq nqs).1, (F3.2 _ _ nl (l2 _ _ hl)).1⟩⟩
      · cases hy
  · exact h.elim

/-! ### k29: edit, undo, redo -/
def LenS (S : SS) : Prop := S.inp.length ≤ 1000 ∧ S.texts.length ≤ 100 ∧ S.done.length ≤ 1000 ∧ S.undone.length ≤ 1000
/-- the texts are texts -/
def TxOk (l : Mp) : Prop := ∀ k w, look l k = some w → ∃ x, w = .str x ∧ OkT x ∧ x.length ≤ 4000
def sp_edit (CS CK f CU CI : Nat) : Sp := fun ws G Q E => match ws with
  | [.ref v, .str m, .tup [.int a, .int b, .str new]] => ∃ (S : SS) (α : Rs → Nat), α .sv = v ∧ Ksv CS CK f G S α ∧ LenS S ∧ new.length ≤ 4000 ∧ TxOk S.texts ∧
      (has S.texts (.str m) = false → E (.ref CU) [] G) ∧
      (∀ x, look S.texts (.str m) = some (.str x) → ¬ fitsE x a b new → E (.ref CI) [] G) ∧
      (∀ x, look S.texts (.str m) = some (.str x) → fitsE x a b new → ∀ G' inp rev α' q, Ksv CS CK f G' { S with texts := putD S.texts (.str m) (.str (newX ⟨m, a, b, new⟩ x)), inp := inp, rev := rev, done := S.done ++ [(q, invS ⟨m, a, b, new⟩ x)], undone := [] } α' → Frs G α G' α' → inp.length ≤ S.inp.length + 1 → Q .non G')
  | _ => False
theorem mono_edit (CS CK f CU CI : Nat) : Mono (sp_edit CS CK f CU CI) := by
  intro ws G Q Q' E E' hq he h
  unfold sp_edit at h ⊢
  split at h
  · obtain ⟨S, α, a, b, c, d, e, k1, k2, k3⟩ := h
    exact ⟨S, α, a, b, c, d, e, fun z => he _ _ _ (k1 z), fun x y z => he _ _ _ (k2 x y z), fun x y z G' i r α' q u v w => hq _ _ (k3 x y z G' i r α' q u v w)⟩
  · exact h.elim
theorem len_edit (CS CK f CU CI : Nat) (ws : List W) (G : Gh) (Q : QV) (E : XQ) (h : sp_edit CS CK f CU CI ws G Q E) : ws.length = 3 := by
  unfold sp_edit at h
  split at h
  · rfl
  · exact h.elim
theorem has_look {l : Mp} {k w : W} (h : look l k = some w) : has l k = true := by unfold has; rw [h]; rfl
theorem has_of {l : Mp} {k : W} (h : has l k = true) : ∃ w, look l k = some w := by
  unfold has at h
  cases e : look l k with
  | none => rw [e] at h; cases h
  | some w => exact ⟨w, rfl⟩
theorem vc_edit (CS CK f CU CI : Nat) (ws : List W) (G : Gh) (Q : QV) (E : XQ) (fg : Fgt Q E) (h : sp_edit CS CK f CU CI ws G Q E) :
    rd_Server_edit CS (sp_needf CS CK f CU) (sp_apply CI) (sp_dost CS CK f) { nx := fun _ G' => Q .non G', rt := Q, ex := fun _ => E } (startF 3 ws) G := by
  unfold sp_edit at h
  split at h
  · rename_i v m a b new
    obtain ⟨S, α, rfl, K, ⟨hi, ht, hl, hl2⟩, hn, hx, k1, k2, k3⟩ := h
    have hSZ : SZ = 16777216 := rfl
    have hv := K.hv
    have htx := K.ht
    simp only [rd_Server_edit, startF, sSeq, sSet, sRet, sRetN, sIf, sNext, sDrop, sAsg, sAug, sBrk, sCnt, sThrow, sFld, sFldAug, sPutA, sDput, sFor, iVal, iRng1, iRng2, tV, tTru, tAnd, tOr, tNot, eVar, eC, eOp, eUn, eIf, eAnd, eOr, eNot, eCh, eCh3, eCall, eBlt, eMet, eMakeX, eCallV, eFld, asIns, eTup, eLst, eDnewT, eDnew, eBm, tyW, aCons, aNil, aCs, eFS, eFmt, eJs_nil, eJs_cons, eSl, oNo, oPart, eDget1, eDget2, eDpop1, eDpop2, eDsetd, isDW, isDM, popK, popD, dictOf, rAt, rIx, rDget, rInD, rNotInD, rInB, rIn, rNotIn, rInA, rEq, rNe, eqA, rLt, rLe, rGt, rGe, rIs, rIsNot, rIsL, rIsLN, rAdd, rSub, rMod, rNeg, rIadd, rSl, isN_non, isN_bl, isN_int, isN_str, isN_ref, isN_tup, gName, gTup, gCons, gNil, truth, bLen, bAbs, bMin, bMax, bInt, bSum, bTuple, bList, bIsi, clsN, mAppend, mPop, mExtend, mReplaceL, rEqN, rNeN, rNeM, rEqE, rNeE, rInS2, eRev, get_zero, get_succ, put_zero, put_succ, del_zero, del_succ, nthW_zero, nthW_succ, setF_nil, setF_zero, setF_succ, Option.map_some, List.getElem?_cons_zero, List.getElem?_cons_succ, List.map_cons, List.map_nil, List.cons_append, List.nil_append, List.length_cons, List.length_nil, List.replicate, Bool.not_true, Bool.not_false, Bool.false_eq_true, if_false, if_true, hv, true_and]
    refine ⟨S, α, rfl, K, fun e => ?_, k1⟩
    obtain ⟨w, ew⟩ := has_of e
    obtain ⟨x, rfl, ox, lx⟩ := hx _ _ ew
    simp only [hv, nthW_zero, nthW_succ, htx, ew, key1_str, true_and]
    refine ⟨by omega, by omega, fun hf => ?_, fun hf => k2 x ew hf⟩
    have hd := K.hd
    have e0 : G (α .dn) = some (.lst (S.done.map fun x => .ref x.1)) := hd
    simp only [hv, nthW_zero, nthW_succ, e0, true_and]
    refine ⟨by decide, by decide, fun q hq => ?_⟩
    have l1 : Le G (up G q (.lst [.tup [.str m, .tup [.int a, .int b, .str new]]])) := Le.up hq
    have K1 := K.le l1
    refine ⟨S, α, ⟨m, a, b, new⟩, x, rfl, K1, hi, ht, up_same, fun r => K.free hq r, ⟨ew, hf, lx, ox, hn⟩, fun G2 inp rev q2 K2 F2 l2 e2 n2 z2 => ?_⟩
    have e3 : G2 (α .dn) = some (.lst (S.done.map fun x => .ref x.1)) := K2.hd
    have dl : (S.done.map fun x => W.ref x.1).length < SZ := by have := hl; rw [List.length_map]; omega
    simp only [e3]
    refine ⟨dl, ?_⟩
    have e4 : (S.done.map fun x => W.ref x.1) ++ [W.ref q2] = (S.done ++ [(q2, invS ⟨m, a, b, new⟩ x)]).map fun x => W.ref x.1 := by rw [List.map_append]; rfl
    rw [e4]
    obtain ⟨K3, F3⟩ := K2.dones (S.done ++ [(q2, invS ⟨m, a, b, new⟩ x)]) fun y hy => by
      rcases List.mem_append.mp hy with hy | hy
      · exact K2.st y (.inl hy)
      · rw [List.mem_singleton.mp hy]; exact ⟨e2, n2⟩
    have e5 : O.lst ((S.done ++ [(q2, invS ⟨m, a, b, new⟩ x)]).map fun x => W.ref x.1) = refsL (S.done ++ [(q2, invS ⟨m, a, b, new⟩ x)]) := rfl
    rw [e5]
    generalize up G2 (α .dn) _ = G3 at K3 F3 ⊢
    refine ⟨by decide, fun q4 hq4 => ?_⟩
    obtain ⟨K4, F4⟩ := K3.newun hq4
    have e6 : up G3 q4 (.lst []) (α .sv) = _ := (up_ne (K3.free hq4 .sv)).trans K3.hv
    simp only [e6, true_and, setF_succ, setF_zero, Option.map_some]
    exact k3 x ew hf _ inp rev _ q2 K4 (((Frs.le l1).trans F2).trans (F3.trans F4)) l2
  · exact h.elim
def sp_undo (CS CK f CN : Nat) : Sp := fun ws G Q E => match ws with
  | [.ref v] => ∃ (S : SS) (α : Rs → Nat), α .sv = v ∧ Ksv CS CK f G S α ∧ LenS S ∧ (S.done = [] → E (.ref CN) [] G) ∧
      ∀ d q s, S.done = d ++ [(q, s)] → ∃ x, StO S.texts s x ∧ ∀ G' inp rev q', Ksv CS CK f G' { S with texts := putD S.texts (.str s.m) (.str (newX s x)), inp := inp, rev := rev, done := d, undone := S.undone ++ [(q', invS s x)] } α → Frs G α G' α → inp.length ≤ S.inp.length + 1 → Q .non G'
  | _ => False
theorem mono_undo (CS CK f CN : Nat) : Mono (sp_undo CS CK f CN) := by
  intro ws G Q Q' E E' hq he h
  unfold sp_undo at h ⊢
  split at h
  · obtain ⟨S, α, a, b, c, d, k⟩ := h
    refine ⟨S, α, a, b, c, fun z => he _ _ _ (d z), fun d q s z => ?_⟩
    obtain ⟨x, h1, h2⟩ := k d q s z
    exact ⟨x, h1, fun G' i r q' u v w => hq _ _ (h2 G' i r q' u v w)⟩
  · exact h.elim
theorem len_undo (CS CK f CN : Nat) (ws : List W) (G : Gh) (Q : QV) (E : XQ) (h : sp_undo CS CK f CN ws G Q E) : ws.length = 1 := by
  unfold sp_undo at h
  split at h
  · rfl
  · exact h.elim
theorem vc_undo (CS CK f CN : Nat) (ws : List W) (G : Gh) (Q : QV) (E : XQ) (fg : Fgt Q E) (h : sp_undo CS CK f CN ws G Q E) :
    rd_Server_undo CS CN (sp_dost CS CK f) { nx := fun _ G' => Q .non G', rt := Q, ex := fun _ => E } (startF 1 ws) G := by
  unfold sp_undo at h
  split at h
  · obtain ⟨S, α, rfl, K, ⟨hi, ht, hl, hl2⟩, k1, k2⟩ := h
    have hSZ : SZ = 16777216 := rfl
    have hv := K.hv
    have e0 : G (α .dn) = some (.lst (S.done.map fun x => .ref x.1)) := K.hd
    have e1 : G (α .un) = some (.lst (S.undone.map fun x => .ref x.1)) := K.hu
    simp only [rd_Server_undo, startF, sSeq, sSet, sRet, sRetN, sIf, sNext, sDrop, sAsg, sAug, sBrk, sCnt, sThrow, sFld, sFldAug, sPutA, sDput, sFor, iVal, iRng1, iRng2, tV, tTru, tAnd, tOr, tNot, eVar, eC, eOp, eUn, eIf, eAnd, eOr, eNot, eCh, eCh3, eCall, eBlt, eMet, eMakeX, eCallV, eFld, asIns, eTup, eLst, eDnewT, eDnew, eBm, tyW, aCons, aNil, aCs, eFS, eFmt, eJs_nil, eJs_cons, eSl, oNo, oPart, eDget1, eDget2, eDpop1, eDpop2, eDsetd, isDW, isDM, popK, popD, dictOf, rAt, rIx, rDget, rInD, rNotInD, rInB, rIn, rNotIn, rInA, rEq, rNe, eqA, rLt, rLe, rGt, rGe, rIs, rIsNot, rIsL, rIsLN, rAdd, rSub, rMod, rNeg, rIadd, rSl, isN_non, isN_bl, isN_int, isN_str, isN_ref, isN_tup, gName, gTup, gCons, gNil, truth, bLen, bAbs, bMin, bMax, bInt, bSum, bTuple, bList, bIsi, clsN, mAppend, mPop, mExtend, mReplaceL, rEqN, rNeN, rNeM, rEqE, rNeE, rInS2, eRev, get_zero, get_succ, put_zero, put_succ, del_zero, del_succ, nthW_zero, nthW_succ, setF_nil, setF_zero, setF_succ, Option.map_some, List.getElem?_cons_zero, List.getElem?_cons_succ, List.map_cons, List.map_nil, List.cons_append, List.nil_append, List.length_cons, List.length_nil, List.replicate, Bool.not_true, Bool.not_false, Bool.false_eq_true, if_false, if_true, hv, e0, true_and]
    rcases List.eq_nil_or_concat S.done with hd | ⟨d, ⟨q, s⟩, hd⟩
    · rw [hd]
      exact k1 hd
    · rw [List.concat_eq_append] at hd
      obtain ⟨x, so, k⟩ := k2 d q s hd
      have n0 : (S.done.map fun x => W.ref x.1).isEmpty = false := by rw [hd]; simp
      have n1 : (S.done.map fun x => W.ref x.1).getLast? = some (.ref q) := by rw [hd]; simp
      have n2 : (S.done.map fun x => W.ref x.1).dropLast = d.map fun x => W.ref x.1 := by rw [hd]; simp
      simp only [n0, Bool.not_true, Bool.not_false, Bool.false_eq_true, if_false, hv, nthW_zero, nthW_succ, e0, e1, n1, n2, true_and]
      obtain ⟨K1, F1⟩ := K.dones d fun y hy => K.st y (.inl (by rw [hd]; exact List.mem_append_left _ hy))
      have hq := K.st (q, s) (.inl (by rw [hd]; simp))
      have hq1 := (F1.2 q _ hq.2 hq.1).1
      have e5 : O.lst (d.map fun x => W.ref x.1) = refsL d := rfl
      rw [e5]
      generalize up G (α .dn) _ = G1 at K1 F1 hq1 ⊢
      refine ⟨_, α, s, x, rfl, K1, hi, ht, hq1, hq.2, so, fun G2 inp rev q2 K2 F2 l2 e2 n2 z2 => ?_⟩
      have e3 : G2 (α .un) = some (.lst (S.undone.map fun x => .ref x.1)) := K2.hu
      simp only [e3]
      refine ⟨by rw [List.length_map]; omega, ?_⟩
      have e4 : (S.undone.map fun x => W.ref x.1) ++ [W.ref q2] = (S.undone ++ [(q2, invS s x)]).map fun x => W.ref x.1 := by rw [List.map_append]; rfl
      rw [e4]
      obtain ⟨K3, F3⟩ := K2.undones (S.undone ++ [(q2, invS s x)]) fun y hy => by
        rcases List.mem_append.mp hy with hy | hy
        · exact K2.st y (.inr hy)
        · rw [List.mem_singleton.mp hy]; exact ⟨e2, n2⟩
      exact k _ inp rev q2 K3 (F1.trans (F2.trans F3)) l2
  · exact h.elim
def sp_redo (CS CK f CN : Nat) : Sp := fun ws G Q E => match ws with
  | [.ref v] => ∃ (S : SS) (α : Rs → Nat), α .sv = v ∧ Ksv CS CK f G S α ∧ LenS S ∧ (S.undone = [] → E (.ref CN) [] G) ∧
      ∀ d q s, S.undone = d ++ [(q, s)] → ∃ x, StO S.texts s x ∧ ∀ G' inp rev q', Ksv CS CK f G' { S with texts := putD S.texts (.str s.m) (.str (newX s x)), inp := inp, rev := rev, done := S.done ++ [(q', invS s x)], undone := d } α → Frs G α G' α → inp.length ≤ S.inp.length + 1 → Q .non G'
  | _ => False
theorem mono_redo (CS CK f CN : Nat) : Mono (sp_redo CS CK f CN) := by
  intro ws G Q Q' E E' hq he h
  unfold sp_redo at h ⊢
  split at h
  · obtain ⟨S, α, a, b, c, d, k⟩ := h
    refine ⟨S, α, a, b, c, fun z => he _ _ _ (d z), fun d q s z => ?_⟩
    obtain ⟨x, h1, h2⟩ := k d q s z
    exact ⟨x, h1, fun G' i r q' u v w => hq _ _ (h2 G' i r q' u v w)⟩
  · exact h.elim
theorem len_redo (CS CK f CN : Nat) (ws : List W) (G : Gh) (Q : QV) (E : XQ) (h : sp_redo CS CK f CN ws G Q E) : ws.length = 1 := by
  unfold sp_redo at h
  split at h
  · rfl
  · exact h.elim
theorem vc_redo (CS CK f CN : Nat) (ws : List W) (G : Gh) (Q : QV) (E : XQ) (fg : Fgt Q E) (h : sp_redo CS CK f CN ws G Q E) :
    rd_Server_redo CS CN (sp_dost CS CK f) { nx := fun _ G' => Q .non G', rt := Q, ex := fun _ => E } (startF 1 ws) G := by
  unfold sp_redo at h
  split at h
  · obtain ⟨S, α, rfl, K, ⟨hi, ht, hl, hl2⟩, k1, k2⟩ := h
    have hSZ : SZ = 16777216 := rfl
    have hv := K.hv
    have e0 : G (α .un) = some (.lst (S.undone.map fun x => .ref x.1)) := K.hu
    have e1 : G (α .dn) = some (.lst (S.done.map fun x => .ref x.1)) := K.hd
    simp only [rd_Server_redo, startF, sSeq, sSet, sRet, sRetN, sIf, sNext, sDrop, sAsg, sAug, sBrk, sCnt, sThrow, sFld, sFldAug, sPutA, sDput, sFor, iVal, iRng1, iRng2, tV, tTru, tAnd, tOr, tNot, eVar, eC, eOp, eUn, eIf, eAnd, eOr, eNot, eCh, eCh3, eCall, eBlt, eMet, eMakeX, eCallV, eFld, asIns, eTup, eLst, eDnewT, eDnew, eBm, tyW, aCons, aNil, aCs, eFS, eFmt, eJs_nil, eJs_cons, eSl, oNo, oPart, eDget1, eDget2, eDpop1, eDpop2, eDsetd, isDW, isDM, popK, popD, dictOf, rAt, rIx, rDget, rInD, rNotInD, rInB, rIn, rNotIn, rInA, rEq, rNe, eqA, rLt, rLe, rGt, rGe, rIs, rIsNot, rIsL, rIsLN, rAdd, rSub, rMod, rNeg, rIadd, rSl, isN_non, isN_bl, isN_int, isN_str, isN_ref, isN_tup, gName, gTup, gCons, gNil, truth, bLen, bAbs, bMin, bMax, bInt, bSum, bTuple, bList, bIsi, clsN, mAppend, mPop, mExtend, mReplaceL, rEqN, rNeN, rNeM, rEqE, rNeE, rInS2, eRev, get_zero, get_succ, put_zero, put_succ, del_zero, del_succ, nthW_zero, nthW_succ, setF_nil, setF_zero, setF_succ, Option.map_some, List.getElem?_cons_zero, List.getElem?_cons_succ, List.map_cons, List.map_nil, List.cons_append, List.nil_append, List.length_cons, List.length_nil, List.replicate, Bool.not_true, Bool.not_false, Bool.false_eq_true, if_false, if_true, hv, e0, true_and]
    rcases List.eq_nil_or_concat S.undone with hd | ⟨d, ⟨q, s⟩, hd⟩
    · rw [hd]
      exact k1 hd
    · rw [List.concat_eq_append] at hd
      obtain ⟨x, so, k⟩ := k2 d q s hd
      have n0 : (S.undone.map fun x => W.ref x.1).isEmpty = false := by rw [hd]; simp
      have n1 : (S.undone.map fun x => W.ref x.1).getLast? = some (.ref q) := by rw [hd]; simp
      have n2 : (S.undone.map fun x => W.ref x.1).dropLast = d.map fun x => W.ref x.1 := by rw [hd]; simp
      simp only [n0, Bool.not_true, Bool.not_false, Bool.false_eq_true, if_false, hv, nthW_zero, nthW_succ, e0, e1, n1, n2, true_and]
      obtain ⟨K1, F1⟩ := K.undones d fun y hy => K.st y (.inr (by rw [hd]; exact List.mem_append_left _ hy))
      have hq := K.st (q, s) (.inr (by rw [hd]; simp))
      have hq1 := (F1.2 q _ hq.2 hq.1).1
      have e5 : O.lst (d.map fun x => W.ref x.1) = refsL d := rfl
      rw [e5]
      generalize up G (α .un) _ = G1 at K1 F1 hq1 ⊢
      refine ⟨_, α, s, x, rfl, K1, hi, ht, hq1, hq.2, so, fun G2 inp rev q2 K2 F2 l2 e2 n2 z2 => ?_⟩
      have e3 : G2 (α .dn) = some (.lst (S.done.map fun x => .ref x.1)) := K2.hd
      simp only [e3]
      refine ⟨by rw [List.length_map]; omega, ?_⟩
      have e4 : (S.done.map fun x => W.ref x.1) ++ [W.ref q2] = (S.done ++ [(q2, invS s x)]).map fun x => W.ref x.1 := by rw [List.map_append]; rfl
      rw [e4]
      obtain ⟨K3, F3⟩ := K2.dones (S.done ++ [(q2, invS s x)]) fun y hy => by
        rcases List.mem_append.mp hy with hy | hy
        · exact K2.st y (.inl hy)
        · rw [List.mem_singleton.mp hy]; exact ⟨e2, n2⟩
      exact k _ inp rev q2 K3 (F1.trans (F2.trans F3)) l2
  · exact h.elim

/-! ### k29: a server is made; a file is opened -/
abbrev TM := List (List Nat × List Nat)
def toD (l : TM) : Mp := l.map fun p => (.str p.1, .str p.2)
def tget : TM → List Nat → Option (List Nat)
  | [], _ => none
  | p :: r, m => if p.1 = m then some p.2 else tget r m
def tput (l : TM) (m x : List Nat) : TM := if (tget l m).isSome = true then l.map (fun p => if p.1 = m then (p.1, x) else p) else l ++ [(m, x)]
theorem look_toD (m : List Nat) : ∀ l : TM, look (toD l) (.str m) = (tget l m).map W.str
  | [] => rfl
  | p :: l => by
    show look ((.str p.1, .str p.2) :: toD l) (.str m) = _
    unfold look tget
    by_cases e : p.1 = m
    · rw [if_pos (by simp [keq, e]), if_pos e]; rfl
    · rw [if_neg (by simp [keq, e]), if_neg e]; exact look_toD m l
theorem has_toD (l : TM) (m : List Nat) : has (toD l) (.str m) = (tget l m).isSome := by
  unfold has; rw [look_toD]; cases tget l m <;> rfl
theorem putD_toD (l : TM) (m x : List Nat) : putD (toD l) (.str m) (.str x) = toD (tput l m x) := by
  unfold putD tput
  rw [has_toD]
  split
  · unfold toD
    rw [List.map_map, List.map_map]
    refine List.map_congr_left fun p hp => ?_
    simp only [Function.comp, keq]
    by_cases e : p.1 = m
    · simp [e]
    · simp [e]
  · unfold toD
    rw [List.map_append]
    rfl
theorem toD_keys (l : TM) : (toD l).map (·.1) = (l.map (·.1)).map W.str := by unfold toD; rw [List.map_map, List.map_map]; rfl
theorem tget_mem {m x : List Nat} : ∀ {l : TM}, tget l m = some x → (m, x) ∈ l
  | [], h => nomatch h
  | p :: l, h => by
    unfold tget at h
    split at h
    · rename_i e; cases h; subst e; exact List.mem_cons_self
    · exact List.mem_cons_of_mem _ (tget_mem h)
theorem tget_nodup {m x : List Nat} : ∀ {l : TM}, (l.map (·.1)).Nodup → (m, x) ∈ l → tget l m = some x
  | [], _, h => nomatch h
  | p :: l, hn, h => by
    rw [List.map_cons, List.nodup_cons] at hn
    unfold tget
    rcases List.mem_cons.mp h with e | h
    · subst e; rw [if_pos rfl]
    · rw [if_neg (fun e => hn.1 (by rw [e]; exact List.mem_map_of_mem h))]
      exact tget_nodup hn.2 h
theorem tput_get {l : TM} {m x y : List Nat} (h : tget l m = some x) : tget (tput l m y) m = some y := by
  unfold tput
  rw [h, Option.isSome_some, if_pos rfl]
  induction l with
  | nil => cases h
  | cons p l ih =>
    rw [List.map_cons]
    unfold tget at h ⊢
    by_cases e : p.1 = m
    · rw [if_pos e, if_pos e]
    · rw [if_neg e] at h
      rw [if_neg e, if_neg e]
      exact ih h
theorem tput_keys {l : TM} {m x y : List Nat} (h : tget l m = some x) : (tput l m y).map (·.1) = l.map (·.1) := by
  unfold tput
  rw [h, Option.isSome_some, if_pos rfl, List.map_map]
  refine List.map_congr_left fun p hp => ?_
  simp only [Function.comp]
  split <;> rfl
theorem tput_back {l : TM} {m x y : List Nat} (hn : (l.map (·.1)).Nodup) (h : tget l m = some x) : tput (tput l m y) m x = l := by
  have e1 := tput_get (y := y) h
  unfold tput at e1 ⊢
  rw [h, Option.isSome_some, if_pos rfl] at e1 ⊢
  rw [e1, Option.isSome_some, if_pos rfl, List.map_map]
  conv => rhs; rw [← List.map_id l]
  refine List.map_congr_left fun p hp => ?_
  simp only [Function.comp, id]
  by_cases e : p.1 = m
  · rw [if_pos e, if_pos e]
    have := tget_nodup hn (show (p.1, p.2) ∈ l from hp)
    rw [e, h] at this
    cases this
    rfl
  · rw [if_neg e, if_neg e]
def sp_sinit (CS CK f : Nat) : Sp := fun ws G Q _ => match ws with
  | [.ref v, .ref d] => ∃ T : TM, G v = some (.ins CS ns_Server []) ∧ G d = some (.dct (toD T)) ∧ okM (toD T) ∧ (T.map (·.1)).Nodup ∧ T.length ≤ 6 ∧
      ∀ G' S α, α .sv = v → Ksv CS CK f G' S α → S.texts = toD T → S.done = [] → S.undone = [] → S.inp.length ≤ 20 → (∀ b o, b ≠ v → G b = some o → G' b = some o ∧ ∀ r, α r ≠ b) → Q .non G'
  | _ => False
theorem mono_sinit (CS CK f : Nat) : Mono (sp_sinit CS CK f) := by
  intro ws G Q Q' E E' hq he h
  unfold sp_sinit at h ⊢
  split at h
  · obtain ⟨T, a, b, c, d, e, k⟩ := h
    exact ⟨T, a, b, c, d, e, fun G' S α x1 x2 x3 x4 x5 x6 x7 => hq _ _ (k G' S α x1 x2 x3 x4 x5 x6 x7)⟩
  · exact h.elim
theorem len_sinit (CS CK f : Nat) (ws : List W) (G : Gh) (Q : QV) (E : XQ) (h : sp_sinit CS CK f ws G Q E) : ws.length = 2 := by
  unfold sp_sinit at h
  split at h
  · rfl
  · exact h.elim
def mkRo (v q p I En d u : Nat) : Rs → Nat
  | .sv => v
  | .tx => q
  | .kp => p
  | .I => I
  | .En => En
  | .dn => d
  | .un => u
theorem mkRo_inj {v q p I En d u : Nat} (h1 : v ≠ q) (h2 : v ≠ p) (h3 : v ≠ I) (h4 : v ≠ En) (h5 : v ≠ d) (h6 : v ≠ u) (h7 : q ≠ p) (h8 : q ≠ I) (h9 : q ≠ En) (h10 : q ≠ d) (h11 : q ≠ u)
    (h12 : p ≠ I) (h13 : p ≠ En) (h14 : p ≠ d) (h15 : p ≠ u) (h16 : I ≠ En) (h17 : I ≠ d) (h18 : I ≠ u) (h19 : En ≠ d) (h20 : En ≠ u) (h21 : d ≠ u) : ∀ r r', mkRo v q p I En d u r = mkRo v q p I En d u r' → r = r' := by
  intro r r' e
  cases r <;> cases r' <;> first | rfl | exact absurd e ‹_› | exact absurd e.symm ‹_›
theorem okM_at {T : TM} (h : okM (toD T)) {p : List Nat × List Nat} (hp : p ∈ T) : nameOk p.1 ∧ p.2.length ≤ 4000 ∧ OkT p.2 := by
  obtain ⟨m, s, e, a, b, c⟩ := h (.str p.1, .str p.2) (List.mem_map_of_mem (f := fun p : List Nat × List Nat => (W.str p.1, W.str p.2)) hp)
  cases e
  exact ⟨a, b, c⟩
theorem vc_sinit (CS CK CI f : Nat) (ws : List W) (G : Gh) (Q : QV) (E : XQ) (fg : Fgt Q E) (h : sp_sinit CS CK f ws G Q E) :
    rd_Server__init CI CS CK sp_needm (sp_newk CK f) (sp_comp CK) { nx := fun _ G' => Q .non G', rt := Q, ex := fun _ => E } (startF 3 ws) G := by
  unfold sp_sinit at h
  split at h
  · rename_i v d
    obtain ⟨T, hv, hd, hok, hnd, hl, k⟩ := h
    have hSZ : SZ = 16777216 := rfl
    have nvd : v ≠ d := by rintro rfl; rw [hv] at hd; cases hd
    have eM : c_MOST_MODULES = .int 6 := rfl
    have hl2 : (toD T).length = T.length := by unfold toD; rw [List.length_map]
    have fin : ∀ o : Option W, sSeq (sFld CS ns_Server 0 (eVar 0) (eBlt bDict (aCons (eVar 1) (aNil)))) (sSeq (sFld CS ns_Server 1 (eVar 0) (eCall (sp_newk CK f) (aCons (eVar 1) (aNil)))) (sSeq (sDrop (eMet CK ns_Keeper (sp_comp CK) (eFld CS ns_Server 1 (eVar 0)) aNil)) (sSeq (sFld CS ns_Server 2 (eVar 0) (eLst (aNil))) (sFld CS ns_Server 3 (eVar 0) (eLst (aNil)))))) { nx := fun _ G' => Q .non G', rt := Q, ex := fun _ => E } [some (.ref v), some (.ref d), o] G := by
      intro o
      simp only [startF, sSeq, sSet, sRet, sRetN, sIf, sNext, sDrop, sAsg, sAug, sBrk, sCnt, sThrow, sFld, sFldAug, sPutA, sDput, sFor, iVal, iRng1, iRng2, tV, tTru, tAnd, tOr, tNot, eVar, eC, eOp, eUn, eIf, eAnd, eOr, eNot, eCh, eCh3, eCall, eBlt, eMet, eMakeX, eCallV, eFld, asIns, eTup, eLst, eDnewT, eDnew, eBm, tyW, aCons, aNil, aCs, eFS, eFmt, eJs_nil, eJs_cons, eSl, oNo, oPart, eDget1, eDget2, eDpop1, eDpop2, eDsetd, isDW, isDM, popK, popD, dictOf, rAt, rIx, rDget, rInD, rNotInD, rInB, rIn, rNotIn, rInA, rEq, rNe, eqA, rLt, rLe, rGt, rGe, rIs, rIsNot, rIsL, rIsLN, rAdd, rSub, rMod, rNeg, rIadd, rSl, isN_non, isN_bl, isN_int, isN_str, isN_ref, isN_tup, gName, gTup, gCons, gNil, truth, bLen, bAbs, bMin, bMax, bInt, bSum, bTuple, bList, bIsi, clsN, mAppend, mPop, mExtend, mReplaceL, rEqN, rNeN, rNeM, rEqE, rNeE, rInS2, eRev, get_zero, get_succ, put_zero, put_succ, del_zero, del_succ, nthW_zero, nthW_succ, setF_nil, setF_zero, setF_succ, Option.map_some, List.getElem?_cons_zero, List.getElem?_cons_succ, List.map_cons, List.map_nil, List.cons_append, List.nil_append, List.length_cons, List.length_nil, List.replicate, Bool.not_true, Bool.not_false, Bool.false_eq_true, if_false, if_true, bDict, hd]
      intro q hq
      have vq := ne_free' hv hq
      have dq := ne_free' hd hq
      have e1 : up G q (.dct (toD T)) v = _ := (up_ne vq).trans hv
      simp only [e1, true_and, setF_nil]
      have keep1 : ∀ b o, b ≠ v → G b = some o → up (up G q (.dct (toD T))) v (.ins CS ns_Server [.ref q]) b = some o := fun b o hb e => by rw [up_ne hb, up_ne (ne_free' e hq)]; exact e
      have hq1 : up (up G q (.dct (toD T))) v (.ins CS ns_Server [.ref q]) q = some (.dct (toD T)) := by rw [up_ne vq.symm, up_same]
      have hv1 : up (up G q (.dct (toD T))) v (.ins CS ns_Server [.ref q]) v = some (.ins CS ns_Server [.ref q]) := up_same
      have hd1 := keep1 d _ nvd.symm hd
      generalize up (up G q (.dct (toD T))) v _ = G1 at keep1 hq1 hv1 hd1 ⊢
      refine ⟨_, hd1, hok, by omega, fun G2 p I En inp rev g1 g2 g3 P l2 old2 => ?_⟩
      have hv2 := old2 _ _ hv1
      have hq2 := old2 _ _ hq1
      simp only [hv2.1, true_and, setF_succ, setF_nil, Option.map_some]
      have P3 : Kpp CK f (up G2 v (.ins CS ns_Server [.ref q, .ref p])) p I En inp rev g1 g2 g3 := ⟨by rw [up_ne hv2.2.1.symm]; exact P.hp, by rw [up_ne hv2.2.2.1.symm]; exact P.hI, by rw [up_ne hv2.2.2.2.symm]; exact P.hE, P.pI, P.pE, P.IE, P.io⟩
      have hv3 : up G2 v (.ins CS ns_Server [.ref q, .ref p]) v = some (.ins CS ns_Server [.ref q, .ref p]) := up_same
      have hq3 : up G2 v (.ins CS ns_Server [.ref q, .ref p]) q = some (.dct (toD T)) := by rw [up_ne vq.symm]; exact hq2.1
      have keep3 : ∀ b o, b ≠ v → G b = some o → up G2 v (.ins CS ns_Server [.ref q, .ref p]) b = some o ∧ b ≠ p ∧ b ≠ I ∧ b ≠ En ∧ b ≠ q := fun b o hb e => by
        obtain ⟨x, y⟩ := old2 b o (keep1 b o hb e)
        exact ⟨by rw [up_ne hb]; exact x, y.1, y.2.1, y.2.2, ne_free' e hq⟩
      generalize up G2 v _ = G3 at P3 hv3 hq3 keep3 ⊢
      have hp3 := P3.hp
      simp only [hv3, nthW_succ, nthW_zero, hp3, true_and]
      refine ⟨f, I, En, inp, rev, g1, g2, g3, P3, fun G4 q4 w4 P4 le4 => ?_⟩
      have hv4 := le4 _ _ hv2.2.1 hv3
      have hq4 := le4 _ _ hq2.2.1 hq3
      refine ⟨by decide, fun dn hdn => ?_⟩
      have e5 : up G4 dn (.lst []) v = _ := (up_ne (ne_free' hv4 hdn)).trans hv4
      simp only [e5, true_and, setF_succ, setF_nil, Option.map_some]
      have vdn := ne_free' hv4 hdn
      refine ⟨by decide, fun un hun => ?_⟩
      obtain ⟨unv, hun⟩ := free_up hun
      obtain ⟨und, hun⟩ := free_up hun
      have e6 : up (up (up G4 dn (.lst [])) v (.ins CS ns_Server [.ref q, .ref p, .ref dn])) un (.lst []) v = some (.ins CS ns_Server [.ref q, .ref p, .ref dn]) := by rw [up_ne unv.symm, up_same]
      simp only [e6, true_and, setF_succ, setF_nil, Option.map_some]
      have out : ∀ b o, b ≠ v → G4 b = some o → up (up (up (up G4 dn (.lst [])) v (.ins CS ns_Server [.ref q, .ref p, .ref dn])) un (.lst [])) v (.ins CS ns_Server [.ref q, .ref p, .ref dn, .ref un]) b = some o ∧ b ≠ dn ∧ b ≠ un := fun b o hb e => by
        have b1 := ne_free' e hdn
        have b2 := ne_free' e hun
        exact ⟨by rw [up_ne hb, up_ne b2, up_ne hb, up_ne b1]; exact e, b1, b2⟩
      have hdn5 : up (up (up (up G4 dn (.lst [])) v (.ins CS ns_Server [.ref q, .ref p, .ref dn])) un (.lst [])) v (.ins CS ns_Server [.ref q, .ref p, .ref dn, .ref un]) dn = some (.lst []) := by rw [up_ne vdn.symm, up_ne und.symm, up_ne vdn.symm, up_same]
      have hun5 : up (up (up (up G4 dn (.lst [])) v (.ins CS ns_Server [.ref q, .ref p, .ref dn])) un (.lst [])) v (.ins CS ns_Server [.ref q, .ref p, .ref dn, .ref un]) un = some (.lst []) := by rw [up_ne unv, up_same]
      have hv5 : up (up (up (up G4 dn (.lst [])) v (.ins CS ns_Server [.ref q, .ref p, .ref dn])) un (.lst [])) v (.ins CS ns_Server [.ref q, .ref p, .ref dn, .ref un]) v = some (.ins CS ns_Server [.ref q, .ref p, .ref dn, .ref un]) := up_same
      generalize up (up (up (up G4 dn (.lst [])) v _) un (.lst [])) v _ = G5 at out hdn5 hun5 hv5 ⊢
      have op := out p _ hv2.2.1.symm P4.hp
      have oI := out I _ hv2.2.2.1.symm P4.hI
      have oE := out En _ hv2.2.2.2.symm P4.hE
      have oq := out q _ vq.symm hq4
      refine k G5 ⟨toD T, inp, rev, g1, g2, .ref q4, [], []⟩ (mkRo v q p I En dn un) rfl ⟨?_, fun r => ?_, P4.io, fun x hx => by rcases hx with hx | hx <;> cases hx⟩ rfl rfl rfl l2 fun b o hb e => ?_
      · exact mkRo_inj vq hv2.2.1 hv2.2.2.1 hv2.2.2.2 vdn unv.symm hq2.2.1 hq2.2.2.1 hq2.2.2.2 oq.2.1 oq.2.2 P4.pI P4.pE op.2.1 op.2.2 P4.IE oI.2.1 oI.2.2 oE.2.1 oE.2.2 und.symm
      · cases r
        · exact hv5
        · exact oq.1
        · exact op.1
        · exact oI.1
        · exact oE.1
        · exact hdn5
        · exact hun5
      · obtain ⟨b1, b2, b3, b4, b5⟩ := keep3 b o hb e
        obtain ⟨c1, c2, c3⟩ := out b o hb (le4 _ _ b2 b1)
        refine ⟨c1, fun r => ?_⟩
        cases r
        · exact hb.symm
        · exact b5.symm
        · exact b2.symm
        · exact b3.symm
        · exact b4.symm
        · exact c2.symm
        · exact c3.symm
    unfold rd_Server__init
    generalize sSeq (sFld CS ns_Server 0 (eVar 0) (eBlt bDict (aCons (eVar 1) (aNil)))) _ = TT at fin ⊢
    simp only [startF, sSeq, sSet, sRet, sRetN, sIf, sNext, sDrop, sAsg, sAug, sBrk, sCnt, sThrow, sFld, sFldAug, sPutA, sDput, sFor, iVal, iRng1, iRng2, tV, tTru, tAnd, tOr, tNot, eVar, eC, eOp, eUn, eIf, eAnd, eOr, eNot, eCh, eCh3, eCall, eBlt, eMet, eMakeX, eCallV, eFld, asIns, eTup, eLst, eDnewT, eDnew, eBm, tyW, aCons, aNil, aCs, eFS, eFmt, eJs_nil, eJs_cons, eSl, oNo, oPart, eDget1, eDget2, eDpop1, eDpop2, eDsetd, isDW, isDM, popK, popD, dictOf, rAt, rIx, rDget, rInD, rNotInD, rInB, rIn, rNotIn, rInA, rEq, rNe, eqA, rLt, rLe, rGt, rGe, rIs, rIsNot, rIsL, rIsLN, rAdd, rSub, rMod, rNeg, rIadd, rSl, isN_non, isN_bl, isN_int, isN_str, isN_ref, isN_tup, gName, gTup, gCons, gNil, truth, bLen, bAbs, bMin, bMax, bInt, bSum, bTuple, bList, bIsi, clsN, mAppend, mPop, mExtend, mReplaceL, rEqN, rNeN, rNeM, rEqE, rNeE, rInS2, eRev, get_zero, get_succ, put_zero, put_succ, del_zero, del_succ, nthW_zero, nthW_succ, setF_nil, setF_zero, setF_succ, Option.map_some, List.getElem?_cons_zero, List.getElem?_cons_succ, List.map_cons, List.map_nil, List.cons_append, List.nil_append, List.length_cons, List.length_nil, List.replicate, Bool.not_true, Bool.not_false, Bool.false_eq_true, if_false, if_true, hd, eM, hl2]
    rw [if_neg (by simp; omega)]
    refine ⟨d, toD T, .inl ⟨hd, ?_⟩⟩
    simp only [sFor, iKeys, eVar, get_succ, get_zero, up_same]
    refine ⟨_, by simp only [kItems, up_same]; rfl, ?_⟩
    rw [toD_keys]
    rw [List.map_map]
    refine forX_ind T _ (fun i γ G' => G' = up G d (.rdc (toD T)) ∧ ∃ o, γ = [some (.ref v), some (.ref d), o]) (fun i γ G' _ h => by rw [h.1]; simp only [kItems, up_same, toD_keys, List.map_map]) ?_ ?_ _ _ ⟨rfl, _, rfl⟩
    · rintro γ G' ⟨rfl, o, rfl⟩
      simp only [lockD, up_up, up_same, true_and, up_self hd]
      exact fin o
    · rintro i x γ G' hx ⟨rfl, o, rfl⟩ F hF
      have hm := List.mem_of_getElem? hx
      obtain ⟨n1, n2, n3⟩ := okM_at hok hm
      have e1 : look (toD T) (.str x.1) = some (.str x.2) := by rw [look_toD, tget_nodup hnd hm]; rfl
      simp only [Function.comp, rd_Server__init_b0, startF, sSeq, sSet, sRet, sRetN, sIf, sNext, sDrop, sAsg, sAug, sBrk, sCnt, sThrow, sFld, sFldAug, sPutA, sDput, sFor, iVal, iRng1, iRng2, tV, tTru, tAnd, tOr, tNot, eVar, eC, eOp, eUn, eIf, eAnd, eOr, eNot, eCh, eCh3, eCall, eBlt, eMet, eMakeX, eCallV, eFld, asIns, eTup, eLst, eDnewT, eDnew, eBm, tyW, aCons, aNil, aCs, eFS, eFmt, eJs_nil, eJs_cons, eSl, oNo, oPart, eDget1, eDget2, eDpop1, eDpop2, eDsetd, isDW, isDM, popK, popD, dictOf, rAt, rIx, rDget, rInD, rNotInD, rInB, rIn, rNotIn, rInA, rEq, rNe, eqA, rLt, rLe, rGt, rGe, rIs, rIsNot, rIsL, rIsLN, rAdd, rSub, rMod, rNeg, rIadd, rSl, isN_non, isN_bl, isN_int, isN_str, isN_ref, isN_tup, gName, gTup, gCons, gNil, truth, bLen, bAbs, bMin, bMax, bInt, bSum, bTuple, bList, bIsi, clsN, mAppend, mPop, mExtend, mReplaceL, rEqN, rNeN, rNeM, rEqE, rNeE, rInS2, eRev, get_zero, get_succ, put_zero, put_succ, del_zero, del_succ, nthW_zero, nthW_succ, setF_nil, setF_zero, setF_succ, Option.map_some, List.getElem?_cons_zero, List.getElem?_cons_succ, List.map_cons, List.map_nil, List.cons_append, List.nil_append, List.length_cons, List.length_nil, List.replicate, Bool.not_true, Bool.not_false, Bool.false_eq_true, if_false, if_true, up_same, key1_str, true_and, e1]
      exact ⟨n1, n2, n3, hF _ _ ⟨rfl, _, rfl⟩⟩
  · exact h.elim

/-! ### k29: open_file -/
def sp_open (CS CK f : Nat) : Sp := fun ws G Q _ => match ws with
  | [.ref v, .str m, .str x] => ∃ (S : SS) (α : Rs → Nat) (T : TM), α .sv = v ∧ Ksv CS CK f G S α ∧ S.texts = toD T ∧ tget T m = none ∧ nameOk m ∧ OkT x ∧ x.length ≤ 4000 ∧ T.length ≤ 5 ∧ S.inp.length ≤ 900 ∧ (∀ p ∈ T, nameOk p.1) ∧
      ∀ G' inp rev α', Ksv CS CK f G' { S with texts := toD (tput T m x), inp := inp, rev := rev, done := [], undone := [] } α' → Frs G α G' α' → inp.length ≤ S.inp.length + 2 → Q .non G'
  | _ => False
theorem mono_open (CS CK f : Nat) : Mono (sp_open CS CK f) := by
  intro ws G Q Q' E E' hq he h
  unfold sp_open at h ⊢
  split at h
  · obtain ⟨S, α, T, a, b, c, d, e, g, i, j, l, n, k⟩ := h
    exact ⟨S, α, T, a, b, c, d, e, g, i, j, l, n, fun G' x1 x2 x3 x4 x5 x6 => hq _ _ (k G' x1 x2 x3 x4 x5 x6)⟩
  · exact h.elim
theorem len_open (CS CK f : Nat) (ws : List W) (G : Gh) (Q : QV) (E : XQ) (h : sp_open CS CK f ws G Q E) : ws.length = 3 := by
  unfold sp_open at h
  split at h
  · rfl
  · exact h.elim
theorem tput_new {T : TM} {m x : List Nat} (h : tget T m = none) : tput T m x = T ++ [(m, x)] := by
  unfold tput; rw [h]; rfl
theorem vc_open (CS CK CF CI f : Nat) (ws : List W) (G : Gh) (Q : QV) (E : XQ) (fg : Fgt Q E) (h : sp_open CS CK f ws G Q E) :
    rd_Server_open_file CS CF CI CK sp_needm (sp_put CK) (sp_mods CS CK f) (sp_fgt CS CK f) { nx := fun _ G' => Q .non G', rt := Q, ex := fun _ => E } (startF 3 ws) G := by
  unfold sp_open at h
  split at h
  · rename_i v m x
    obtain ⟨S, α, T, rfl, K, eT, hm, nm, ox, lx, hl, hi, hn, k⟩ := h
    have hSZ : SZ = 16777216 := rfl
    have eM : c_MOST_MODULES = .int 6 := rfl
    have hv := K.hv
    have htx := K.ht
    rw [eT] at htx
    have hh : has (toD T) (.str m) = false := by rw [has_toD, hm]; rfl
    have hl2 : (toD T).length = T.length := by unfold toD; rw [List.length_map]
    simp only [rd_Server_open_file, startF, sSeq, sSet, sRet, sRetN, sIf, sNext, sDrop, sAsg, sAug, sBrk, sCnt, sThrow, sFld, sFldAug, sPutA, sDput, sFor, iVal, iRng1, iRng2, tV, tTru, tAnd, tOr, tNot, eVar, eC, eOp, eUn, eIf, eAnd, eOr, eNot, eCh, eCh3, eCall, eBlt, eMet, eMakeX, eCallV, eFld, asIns, eTup, eLst, eDnewT, eDnew, eBm, tyW, aCons, aNil, aCs, eFS, eFmt, eJs_nil, eJs_cons, eSl, oNo, oPart, eDget1, eDget2, eDpop1, eDpop2, eDsetd, isDW, isDM, popK, popD, dictOf, rAt, rIx, rDget, rInD, rNotInD, rInB, rIn, rNotIn, rInA, rEq, rNe, eqA, rLt, rLe, rGt, rGe, rIs, rIsNot, rIsL, rIsLN, rAdd, rSub, rMod, rNeg, rIadd, rSl, isN_non, isN_bl, isN_int, isN_str, isN_ref, isN_tup, gName, gTup, gCons, gNil, truth, bLen, bAbs, bMin, bMax, bInt, bSum, bTuple, bList, bIsi, clsN, mAppend, mPop, mExtend, mReplaceL, rEqN, rNeN, rNeM, rEqE, rNeE, rInS2, eRev, get_zero, get_succ, put_zero, put_succ, del_zero, del_succ, nthW_zero, nthW_succ, setF_nil, setF_zero, setF_succ, Option.map_some, List.getElem?_cons_zero, List.getElem?_cons_succ, List.map_cons, List.map_nil, List.cons_append, List.nil_append, List.length_cons, List.length_nil, List.replicate, Bool.not_true, Bool.not_false, Bool.false_eq_true, if_false, if_true, hv, htx, key1_str, true_and, hh, eM, hl2]
    have hl3 : (toD T).length ≤ 5 := by omega
    refine ⟨nm, lx, ox, ?_⟩

    have e6 : decide ((6 : Int) ≤ (T.length : Nat)) = false := decide_eq_false (by omega)
    simp only [hv, nthW_zero, htx, hl2]
    simp only [e6, Bool.false_eq_true, if_false, hv, nthW_zero, htx, hl2, true_and]
    refine ⟨by omega, ?_⟩
    rw [putD_toD]
    obtain ⟨K2, F2⟩ := K.texts_ (toD (tput T m x))
    generalize up G (α .tx) _ = G2 at K2 F2 ⊢
    have hv2 := K2.hv
    have hp2 := K2.kpp.hp
    simp only [hv2, nthW_succ, nthW_zero, hp2, true_and]
    refine ⟨by decide, ?_⟩
    have ek : (tput T m x).map (·.1) = T.map (·.1) ++ [m] := by rw [tput_new hm, List.map_append]; rfl
    refine ⟨_, α, (tput T m x).map (·.1), rfl, K2, toD_keys _, by rw [ek]; simp; omega, fun q ys hq pm => ?_⟩
    simp only [up_same]
    have l3 : Le G2 (up G2 q (.lst (ys.map W.str))) := Le.up hq
    have K3 := K2.le l3
    have okn : ∀ z ∈ ys, nameOk z := fun z hz => by
      have := pm.mem_iff.mp hz
      rw [ek] at this
      rcases List.mem_append.mp this with h | h
      · obtain ⟨p, hp, rfl⟩ := List.mem_map.mp h
        exact hn p hp
      · rw [List.mem_singleton.mp h]; exact nm
    refine ⟨f, _, _, _, _, _, _, _, K3.kpp, rfl, okD_strs fun z hz => nameOk_okD (okn z hz), by show S.inp.length ≤ 1000; omega, fun G4 inp4 rev4 P4 l4 out4 => ?_⟩
    obtain ⟨K4, F4⟩ := K3.putted P4 out4
    have hv4 := K4.hv
    have hp4 := K4.kpp.hp
    simp only [hv4, nthW_succ, nthW_zero, hp4, true_and]
    have l4' : inp4.length ≤ S.inp.length + 1 := l4
    refine ⟨by decide, f, _, _, _, _, _, _, _, K4.kpp, rfl, okT_okD ox, by show inp4.length ≤ 1000; omega, fun G5 inp5 rev5 P5 l5 out5 => ?_⟩
    obtain ⟨K5, F5⟩ := K4.putted P5 out5
    have hv5 := K5.hv
    have l5' : inp5.length ≤ inp4.length + 1 := l5
    simp only [hv5, true_and]
    refine ⟨_, α, rfl, K5, fun G6 α6 K6 F6 => ?_⟩
    exact k G6 inp5 rev5 α6 K6 (F2.trans ((Frs.le l3).trans (F4.trans (F5.trans F6)))) (by omega)
  · exact h.elim

/-! ### k29: what the law keeps; acts -/
def opened : List Nat := [111, 112, 101, 110]
def mname (i : Nat) : List Nat := 109 :: decI (i : Nat)
inductive Act where
  | opn (m : List Nat)
  | undo
  | redo
  | edit (m : List Nat) (a b : Int) (new : List Nat)
def actW : Act → W
  | .opn m => .tup [.str [111, 112, 101, 110], .str m]
  | .undo => .tup [.str [117, 110, 100, 111], .str []]
  | .redo => .tup [.str [114, 101, 100, 111], .str []]
  | .edit m a b new => .tup [.str [101, 100, 105, 116], .str m, .tup [.int a, .int b, .str new]]
def nowhere : List Nat := [110, 111, 119, 104, 101, 114, 101]
/-- what the law draws of texts T -/
def ActOk (T : TM) : Act → Prop
  | .opn m => T.length < 5 ∧ m = mname T.length
  | .undo => True
  | .redo => True
  | .edit m a b new => OkT new ∧ new.length ≤ 42 ∧ (m = nowhere ∨ ∃ x, (m, x) ∈ T)
abbrev refsT (l : List (Nat × TM)) : O := .lst (l.map fun x => .ref x.1)
def knD (P F : Nat) : Mp := [(.str [112, 97, 115, 116], .ref P), (.str [102, 117, 116, 117, 114, 101], .ref F)]
structure Hk (G : Gh) (w P F : Nat) (past fut : List (Nat × TM)) : Prop where
  hw : G w = some (.dct (knD P F))
  hP : G P = some (refsT past)
  hF : G F = some (refsT fut)
  PF : P ≠ F
  at_ : ∀ x, x ∈ past ∨ x ∈ fut → G x.1 = some (.dct (toD x.2))
theorem toD_kn {T : TM} {P F : Nat} (h : toD T = knD P F) : False := by
  cases T with
  | nil => cases h
  | cons p T =>
    simp only [toD, knD, List.map_cons, List.cons.injEq, Prod.mk.injEq] at h
    exact nomatch h.1.2
theorem Hk.wP {G : Gh} {w P F : Nat} {past fut : List (Nat × TM)} (K : Hk G w P F past fut) : w ≠ P := by
  rintro rfl; have := K.hw; rw [K.hP] at this; cases this
theorem Hk.wF {G : Gh} {w P F : Nat} {past fut : List (Nat × TM)} (K : Hk G w P F past fut) : w ≠ F := by
  rintro rfl; have := K.hw; rw [K.hF] at this; cases this
theorem Hk.nw {G : Gh} {w P F : Nat} {past fut : List (Nat × TM)} (K : Hk G w P F past fut) {x : Nat × TM} (hx : x ∈ past ∨ x ∈ fut) : x.1 ≠ w ∧ x.1 ≠ P ∧ x.1 ≠ F := by
  have h := K.at_ x hx
  refine ⟨fun e => ?_, fun e => ?_, fun e => ?_⟩
  · rw [e, K.hw] at h
    cases h' : toD x.2 with
    | nil => rw [h'] at h; cases h
    | cons p l => rw [h'] at h; exact toD_kn (by rw [h']; injection h with h; injection h with h; exact h.symm)
  · rw [e, K.hP] at h; cases h
  · rw [e, K.hF] at h; cases h
/-- what is not the law's record stays -/
def Hs (G : Gh) (w P F : Nat) (G' : Gh) : Prop := ∀ b o, b ≠ w → b ≠ P → b ≠ F → G b = some o → G' b = some o
theorem Hk.le {G G' : Gh} {w P F : Nat} {past fut : List (Nat × TM)} (K : Hk G w P F past fut) (l : Le G G') : Hk G' w P F past fut :=
  ⟨l _ _ K.hw, l _ _ K.hP, l _ _ K.hF, K.PF, fun x hx => l _ _ (K.at_ x hx)⟩
theorem Hk.setP {G : Gh} {w P F : Nat} {past fut past' : List (Nat × TM)} (K : Hk G w P F past fut) (h : ∀ x ∈ past', G x.1 = some (.dct (toD x.2))) : Hk (up G P (refsT past')) w P F past' fut := by
  refine ⟨by rw [up_ne K.wP]; exact K.hw, up_same, by rw [up_ne K.PF.symm]; exact K.hF, K.PF, fun x hx => ?_⟩
  have h1 : G x.1 = some (.dct (toD x.2)) := hx.elim (h x) fun z => K.at_ x (.inr z)
  have h2 : x.1 ≠ P := by rintro e; rw [e, K.hP] at h1; cases h1
  rw [up_ne h2]; exact h1
theorem Hk.setF {G : Gh} {w P F : Nat} {past fut fut' : List (Nat × TM)} (K : Hk G w P F past fut) (h : ∀ x ∈ fut', G x.1 = some (.dct (toD x.2))) : Hk (up G F (refsT fut')) w P F past fut' := by
  refine ⟨by rw [up_ne K.wF]; exact K.hw, by rw [up_ne K.PF]; exact K.hP, up_same, K.PF, fun x hx => ?_⟩
  have h1 : G x.1 = some (.dct (toD x.2)) := hx.elim (fun z => K.at_ x (.inl z)) (h x)
  have h2 : x.1 ≠ F := by rintro e; rw [e, K.hF] at h1; cases h1
  rw [up_ne h2]; exact h1
/-! _law_edit_of -/
def sp_eo : Sp := fun ws G Q _ => match ws with
  | [.ref t, .str x] => ∃ c, Tape G t c ∧ x.length ≤ 100000 ∧ ∀ (a b : Int) new o, 0 ≤ a → OkT new → new.length ≤ 42 → Tape (up G t o) t c → Q (.tup [.int a, .int b, .str new]) (up G t o)
  | _ => False
theorem mono_eo : Mono sp_eo := by
  intro ws G Q Q' E E' hq he h
  unfold sp_eo at h ⊢
  split at h
  · obtain ⟨c, T, l, k⟩ := h
    exact ⟨c, T, l, fun a b n o x1 x2 x3 x4 => hq _ _ (k a b n o x1 x2 x3 x4)⟩
  · exact h.elim
theorem len_eo (ws : List W) (G : Gh) (Q : QV) (E : XQ) (h : sp_eo ws G Q E) : ws.length = 2 := by
  unfold sp_eo at h
  split at h
  · rfl
  · exact h.elim
theorem vc_eo (ws : List W) (G : Gh) (Q : QV) (E : XQ) (fg : Fgt Q E) (h : sp_eo ws G Q E) : rd_law_edit_of sp_take (sp_draw (isT 42)) { nx := fun _ G' => Q .non G', rt := Q, ex := fun _ => E } (startF 4 ws) G := by
  unfold sp_eo at h
  split at h
  · rename_i t x
    obtain ⟨c, T, l, k⟩ := h
    have hSZ : SZ = 16777216 := rfl
    simp only [rd_law_edit_of, startF, sSeq, sSet, sRet, sRetN, sIf, sNext, sDrop, sAsg, sAug, sBrk, sCnt, sThrow, sFld, sFldAug, sPutA, sDput, sFor, iVal, iRng1, iRng2, tV, tTru, tAnd, tOr, tNot, eVar, eC, eOp, eUn, eIf, eAnd, eOr, eNot, eCh, eCh3, eCall, eBlt, eMet, eMakeX, eCallV, eFld, asIns, eTup, eLst, eDnewT, eDnew, eBm, tyW, aCons, aNil, aCs, eFS, eFmt, eJs_nil, eJs_cons, eSl, oNo, oPart, eDget1, eDget2, eDpop1, eDpop2, eDsetd, isDW, isDM, popK, popD, dictOf, rAt, rIx, rDget, rInD, rNotInD, rInB, rIn, rNotIn, rInA, rEq, rNe, eqA, rLt, rLe, rGt, rGe, rIs, rIsNot, rIsL, rIsLN, rAdd, rSub, rMod, rNeg, rIadd, rSl, isN_non, isN_bl, isN_int, isN_str, isN_ref, isN_tup, gName, gTup, gCons, gNil, truth, bLen, bAbs, bMin, bMax, bInt, bSum, bTuple, bList, bIsi, clsN, mAppend, mPop, mExtend, mReplaceL, rEqN, rNeN, rNeM, rEqE, rNeE, rInS2, eRev, get_zero, get_succ, put_zero, put_succ, del_zero, del_succ, nthW_zero, nthW_succ, setF_nil, setF_zero, setF_succ, Option.map_some, List.getElem?_cons_zero, List.getElem?_cons_succ, List.map_cons, List.map_nil, List.cons_append, List.nil_append, List.length_cons, List.length_nil, List.replicate, Bool.not_true, Bool.not_false, Bool.false_eq_true, if_false, if_true]
    refine ⟨by omega, c, T, by omega, by omega, fun a o1 a0 a1 T1 => ⟨by omega, ?_⟩⟩
    refine ⟨by decide, fun p hp => ?_⟩
    have T2 := T1.new (o := .lst [.int 0, .int 1, .int 2, .int 5, .int 12]) hp
    refine ⟨c, T2, by decide, by decide, fun d o2 d0 d1 T3 => ?_⟩
    obtain ⟨pt, hp0⟩ := free_up hp
    have e1 : up (up (up G t o1) p (.lst [.int 0, .int 1, .int 2, .int 5, .int 12])) t o2 p = some (.lst ([0, 1, 2, 5, 12].map W.int)) := by rw [up_ne pt, up_same]; rfl
    obtain ⟨n, hn, en⟩ := at_ints (ns := [0, 1, 2, 5, 12]) d0 (by simpa using d1)
    simp only [rAt, e1, en]
    refine ⟨c, T3, fun w o3 ⟨y, e, oy, ly⟩ T4 => ⟨by decide, ?_⟩⟩
    subst e
    have kp : KeepBut t G (up (up (up (up G t o1) p (.lst [.int 0, .int 1, .int 2, .int 5, .int 12])) t o2) t o3) := by
      have h1 : KeepBut t G (up (up G t o1) p (.lst [.int 0, .int 1, .int 2, .int 5, .int 12])) := KeepBut.tape.upd hp0
      exact (h1.trans .tape).trans .tape
    exact tape_fin T T4 kp fg fun o To => k a _ y o a0 oy ly To
  · exact h.elim
/-! _law_act -/
def sp_act : Sp := fun ws G Q _ => match ws with
  | [.ref t, .ref w] => ∃ c P F past fut r T, Tape G t c ∧ Hk G w P F past fut ∧ past.getLast? = some (r, T) ∧ T.length ≤ 10 ∧ (∀ p ∈ T, p.2.length ≤ 100000) ∧ (∀ r ∈ [w, P, F], r ≠ t) ∧ (∀ x ∈ past, x.1 ≠ t) ∧
      ∀ a o, ActOk T a → Tape (up G t o) t c → Q (actW a) (up G t o)
  | _ => False
theorem mono_act : Mono sp_act := by
  intro ws G Q Q' E E' hq he h
  unfold sp_act at h ⊢
  split at h
  · obtain ⟨c, P, F, past, fut, r, T, h1, h2, h3, h4, h5, h6, h7, k⟩ := h
    exact ⟨c, P, F, past, fut, r, T, h1, h2, h3, h4, h5, h6, h7, fun a o x1 x2 => hq _ _ (k a o x1 x2)⟩
  · exact h.elim
theorem len_act (ws : List W) (G : Gh) (Q : QV) (E : XQ) (h : sp_act ws G Q E) : ws.length = 2 := by
  unfold sp_act at h
  split at h
  · rfl
  · exact h.elim
def act_tail (s_law_take : Sp) (s_law_edit_of : Sp) : TS := sSeq (sSet 4 (eOp rAt (eOp rAdd (eBlt bSortdS (aCons (eVar 2) (aNil))) (eLst (aCons (eC (.str [110, 111, 119, 104, 101, 114, 101])) (aNil)))) (eCall s_law_take (aCons (eVar 0) (aCons (eOp rAdd (eBlt bLen (aCons (eVar 2) (aNil))) (eC (.int 1))) (aNil)))))) (sSeq (sSet 5 (eDget2 (eVar 2) (eVar 4) (eC (.str [])))) (sSeq (sAsg (eCall s_law_edit_of (aCons (eVar 0) (aCons (eVar 5) (aNil)))) (gTup 3 (gCons (gName 6) (gCons (gName 7) (gCons (gName 8) (gNil)))))) (sSeq (sIf (tV (eOp rEq (eCall s_law_take (aCons (eVar 0) (aCons (eC (.int 8)) (aNil)))) (eC (.int 0)))) (sSet 7 (eOp rAdd (eBlt bLen (aCons (eVar 5) (aNil))) (eC (.int 1)))) (sNext)) (sRet (eTup (aCons (eC (.str [101, 100, 105, 116])) (aCons (eVar 4) (aCons (eTup (aCons (eVar 6) (aCons (eVar 7) (aCons (eVar 8) (aNil))))) (aNil)))))))))
def act_head (T : TS) (s_law_take : Sp) : TS := sSeq (sSet 2 (eOp rAt (eOp rDget (eVar 1) (eC (.str [112, 97, 115, 116]))) (eUn rNeg (eC (.int 1))))) (sSeq (sSet 3 (eCall s_law_take (aCons (eVar 0) (aCons (eC (.int 10)) (aNil))))) (sSeq (sIf (tAnd (tV (eOp rEq (eVar 3) (eC (.int 0)))) (tV (eOp rLt (eBlt bLen (aCons (eVar 2) (aNil))) (eC (.int 5))))) (sRet (eTup (aCons (eC (.str [111, 112, 101, 110])) (aCons (eOp rAdd (eC (.str [109])) (eBlt bStr (aCons (eBlt bLen (aCons (eVar 2) (aNil))) (aNil)))) (aNil))))) (sNext)) (sSeq (sIf (tV (eOp rLt (eVar 3) (eC (.int 5)))) (sRet (eTup (aCons (eOp rAt (eLst (aCons (eC (.str [117, 110, 100, 111])) (aCons (eC (.str [114, 101, 100, 111])) (aNil)))) (eOp rDiv (eCall s_law_take (aCons (eVar 0) (aCons (eC (.int 5)) (aNil)))) (eC (.int 3)))) (aCons (eC (.str [])) (aNil))))) (sNext)) T)))
theorem act_eq (a b : Sp) : rd_law_act a b = act_head (act_tail a b) a := rfl
theorem names_len {T : TM} {ys : List (List Nat)} (h : ys.Perm (T.map (·.1))) {m : List Nat} (hm : m ∈ ys) : ∃ x, (m, x) ∈ T := by
  have := h.mem_iff.mp hm
  obtain ⟨p, hp, rfl⟩ := List.mem_map.mp this
  exact ⟨p.2, hp⟩
theorem vc_act_tail {t r c : Nat} {T : TM} {G0 G : Gh} {Q : QV} {E : XQ} {x1 x2 x3 : W} (fg : Fgt Q E) (T0 : Tape G0 t c) (tp : Tape G t c) (kp : KeepBut t G0 G) (hr : G r = some (.dct (toD T))) (rt : r ≠ t) (lT : T.length ≤ 10) (hx : ∀ p ∈ T, p.2.length ≤ 100000)
    (k : ∀ a o, ActOk T a → Tape (up G0 t o) t c → Q (actW a) (up G0 t o)) : act_tail sp_take sp_eo { nx := fun _ G' => Q .non G', rt := Q, ex := fun _ => E } [some (.ref t), some x1, some (.ref r), some x3, none, none, none, none, none] G := by
  have hSZ : SZ = 16777216 := rfl
  have hl2 : (toD T).length = T.length := by unfold toD; rw [List.length_map]
  unfold act_tail
  refine sSeq_i (sSet_i ?_)
  simp only [eOp, eBlt, aCons, aNil, eVar, eC, eLst, bSortdS, get_succ, get_zero, hr]
  refine ⟨T.map (·.1), toD_keys T, by rw [List.length_map]; omega, fun p ys hp pm => ?_⟩
  have pr := ne_free hr hp
  refine ⟨by decide, fun q hq => ?_⟩
  obtain ⟨qp, hq0⟩ := free_up hq
  have qr := ne_free hr hq0
  have yl : ys.length = T.length := by rw [pm.length_eq, List.length_map]
  simp only [rAdd, up_ne qp.symm, up_same]
  refine ⟨by simp; omega, fun z hz => ?_⟩
  obtain ⟨zq, hz0⟩ := free_up hz
  obtain ⟨zp, hz0⟩ := free_up hz0
  have zr := ne_free hr hz0
  generalize hG3 : up (up (up G p (.lst (ys.map W.str))) q (.lst [.str [110, 111, 119, 104, 101, 114, 101]])) z _ = G3
  have le3 : Le G G3 := by rw [← hG3]; exact ((Le.up hp).trans (Le.up hq)).trans (Le.up hz)
  have e3 : G3 z = some (.lst ((ys ++ [nowhere]).map W.str)) := by rw [← hG3, up_same, List.map_append]; rfl
  have r3 := le3 _ _ hr
  have T3 := tp.le le3
  have zt := (tp.free hz0).1
  simp only [eCall, aCons, aNil, eOp, eBlt, eVar, eC, get_succ, get_zero, bLen, r3, hl2, rAdd]
  refine ⟨c, T3, by omega, by omega, fun d o1 d0 d1 T4 => ?_⟩
  have e4 : up G3 t o1 z = some (.lst ((ys ++ [nowhere]).map W.str)) := (up_ne zt).trans e3
  have r4 : up G3 t o1 r = some (.dct (toD T)) := (up_ne rt).trans r3
  have hd : d.toNat < (ys ++ [nowhere]).length := by simp; omega
  have e5 : at_ ((ys ++ [nowhere]).map W.str) d = some (.str (ys ++ [nowhere])[d.toNat]) := at_int d0 (by rw [List.getElem?_map, List.getElem?_eq_getElem hd]; rfl)
  have hmem : (ys ++ [nowhere])[d.toNat] ∈ ys ++ [nowhere] := List.getElem_mem hd
  generalize (ys ++ [nowhere])[d.toNat] = m at e5 hmem
  have hm : m = nowhere ∨ ∃ x, (m, x) ∈ T := by
    rcases List.mem_append.mp hmem with h | h
    · exact .inr (names_len pm h)
    · exact .inl (List.mem_singleton.mp h)
  simp only [rAt, e4, e5, put_succ, put_zero]
  have kp4 : KeepBut t G0 (up G3 t o1) := (kp.le le3).trans .tape
  generalize up G3 t o1 = G4 at T4 r4 kp4 ⊢
  have key : ∃ x : List Nat, (look (toD T) (.str m)).getD (.str []) = .str x ∧ x.length ≤ 100000 := by
    rw [look_toD]
    cases e : tget T m with
    | none => exact ⟨[], rfl, by simp⟩
    | some x => exact ⟨x, rfl, hx _ (tget_mem e)⟩
  obtain ⟨x, ex, lx⟩ := key
  refine sSeq_i (sSet_i ?_)
  simp only [eDget2, eVar, eC, get_succ, get_zero, isDW, dictOf, r4, key1_str, ex, put_succ, put_zero, true_and]
  refine sSeq_i ?_
  simp only [sAsg, eCall, eVar, aCons, aNil, get_succ, get_zero]
  refine ⟨c, T4, lx, fun a b new o2 a0 on ln T5 => ?_⟩
  simp only [gTup, gCons, gNil, gName, put_succ, put_zero, List.length_cons, List.length_nil, true_and]
  simp only [startF, sSeq, sSet, sRet, sRetN, sIf, sNext, sDrop, sAsg, sAug, sBrk, sCnt, sThrow, sFld, sFldAug, sPutA, sDput, sFor, iVal, iRng1, iRng2, tV, tTru, tAnd, tOr, tNot, eVar, eC, eOp, eUn, eIf, eAnd, eOr, eNot, eCh, eCh3, eCall, eBlt, eMet, eMakeX, eCallV, eFld, asIns, eTup, eLst, eDnewT, eDnew, eBm, tyW, aCons, aNil, aCs, eFS, eFmt, eJs_nil, eJs_cons, eSl, oNo, oPart, eDget1, eDget2, eDpop1, eDpop2, eDsetd, isDW, isDM, popK, popD, dictOf, rAt, rIx, rDget, rInD, rNotInD, rInB, rIn, rNotIn, rInA, rEq, rNe, eqA, rLt, rLe, rGt, rGe, rIs, rIsNot, rIsL, rIsLN, rAdd, rSub, rMod, rNeg, rIadd, rSl, isN_non, isN_bl, isN_int, isN_str, isN_ref, isN_tup, gName, gTup, gCons, gNil, truth, bLen, bAbs, bMin, bMax, bInt, bSum, bTuple, bList, bIsi, clsN, mAppend, mPop, mExtend, mReplaceL, rEqN, rNeN, rNeM, rEqE, rNeE, rInS2, eRev, get_zero, get_succ, put_zero, put_succ, del_zero, del_succ, nthW_zero, nthW_succ, setF_nil, setF_zero, setF_succ, Option.map_some, List.getElem?_cons_zero, List.getElem?_cons_succ, List.map_cons, List.map_nil, List.cons_append, List.nil_append, List.length_cons, List.length_nil, List.replicate, Bool.not_true, Bool.not_false, Bool.false_eq_true, if_false, if_true]
  have kp5 : KeepBut t G0 (up G4 t o2) := kp4.trans .tape
  refine ⟨c, T5, by decide, by decide, fun d3 o3 g0 g1 T6 => ?_⟩
  have kp6 := kp5.trans (KeepBut.tape (o := o3))
  dsimp only
  by_cases h3 : d3 = 0
  · rw [if_pos (decide_eq_true h3)]
    exact ⟨by omega, by decide, by decide, tape_fin T0 T6 kp6 fg fun o To => k (.edit m a (x.length + 1) new) o ⟨on, ln, hm⟩ To⟩
  · rw [if_neg (by rw [decide_eq_false h3]; decide)]
    exact ⟨by decide, by decide, tape_fin T0 T6 kp6 fg fun o To => k (.edit m a b new) o ⟨on, ln, hm⟩ To⟩
theorem vc_act (ws : List W) (G : Gh) (Q : QV) (E : XQ) (fg : Fgt Q E) (h : sp_act ws G Q E) : rd_law_act sp_take sp_eo { nx := fun _ G' => Q .non G', rt := Q, ex := fun _ => E } (startF 9 ws) G := by
  unfold sp_act at h
  split at h
  · rename_i t w
    obtain ⟨c, P, F, past, fut, r, T, tp, K, hl, lT, hx, nt, nt2, k⟩ := h
    have hSZ : SZ = 16777216 := rfl
    obtain ⟨p0, e0⟩ : ∃ p0, past = p0 ++ [(r, T)] := by
      obtain ⟨p0, x, e⟩ := List.eq_nil_or_concat past |>.resolve_left (by rintro rfl; cases hl)
      exact ⟨p0, by rw [e] at hl ⊢; simp at hl ⊢; exact hl⟩
    have hm : (r, T) ∈ past := by rw [e0]; simp
    have hP := K.hP
    have hw := K.hw
    have eP : look (knD P F) (.str [112, 97, 115, 116]) = some (.ref P) := rfl
    have lst : at_ (past.map fun x => W.ref x.1) (-1) = some (.ref r) := by rw [e0, List.map_append]; exact at_last _ _
    have hr := K.at_ _ (.inl hm)
    have rt := nt2 _ hm
    have hl2 : (toD T).length = T.length := by unfold toD; rw [List.length_map]
    have tail : ∀ {G' : Gh} {x1 x3 : W}, Tape G' t c → KeepBut t G G' → act_tail sp_take sp_eo { nx := fun _ G' => Q .non G', rt := Q, ex := fun _ => E } [some (.ref t), some x1, some (.ref r), some x3, none, none, none, none, none] G' := fun T' kp => vc_act_tail (x2 := .non) fg tp T' kp (kp _ _ rt hr) rt lT hx k
    rw [act_eq]
    generalize act_tail sp_take sp_eo = TT at tail
    unfold act_head
    refine sSeq_i (sSet_i ?_)
    simp only [eOp, eVar, eC, eUn, rNeg, rDget, rAt, get_succ, get_zero, hw, eP, hP, lst, key1_str, true_and, startF, List.map_cons, List.map_nil, List.cons_append, List.nil_append, List.length_cons, List.length_nil, List.replicate, put_succ, put_zero]
    refine sSeq_i (sSet_i ?_)
    simp only [eCall, eVar, eC, aCons, aNil, get_succ, get_zero]
    refine ⟨c, tp, by decide, by decide, fun d o1 d0 d1 T1 => ?_⟩
    have kp1 : KeepBut t G (up G t o1) := .tape
    have r1 := kp1 _ _ rt hr
    simp only [put_succ, put_zero]
    refine sSeq_i (sIf_i ?_)
    simp only [tAnd, tV, eOp, eVar, eC, eBlt, bLen, rEq, eqA, rLt, aCons, aNil, get_succ, get_zero, r1, hl2]
    have go : (if decide (d < 5) = true then sRet (eTup (aCons (eOp rAt (eLst (aCons (eC (.str [117, 110, 100, 111])) (aCons (eC (.str [114, 101, 100, 111])) (aNil)))) (eOp rDiv (eCall sp_take (aCons (eVar 0) (aCons (eC (.int 5)) (aNil)))) (eC (.int 3)))) (aCons (eC (.str [])) (aNil)))) { nx := TT { nx := fun _ G' => Q .non G', rt := Q, ex := fun _ => E }, rt := Q, ex := fun _ => E } [some (.ref t), some (.ref w), some (.ref r), some (.int d), none, none, none, none, none] (up G t o1) else TT { nx := fun _ G' => Q .non G', rt := Q, ex := fun _ => E } [some (.ref t), some (.ref w), some (.ref r), some (.int d), none, none, none, none, none] (up G t o1)) := by
      split
      · simp only [startF, sSeq, sSet, sRet, sRetN, sIf, sNext, sDrop, sAsg, sAug, sBrk, sCnt, sThrow, sFld, sFldAug, sPutA, sDput, sFor, iVal, iRng1, iRng2, tV, tTru, tAnd, tOr, tNot, eVar, eC, eOp, eUn, eIf, eAnd, eOr, eNot, eCh, eCh3, eCall, eBlt, eMet, eMakeX, eCallV, eFld, asIns, eTup, eLst, eDnewT, eDnew, eBm, tyW, aCons, aNil, aCs, eFS, eFmt, eJs_nil, eJs_cons, eSl, oNo, oPart, eDget1, eDget2, eDpop1, eDpop2, eDsetd, isDW, isDM, popK, popD, dictOf, rAt, rIx, rDget, rInD, rNotInD, rInB, rIn, rNotIn, rInA, rEq, rNe, eqA, rLt, rLe, rGt, rGe, rIs, rIsNot, rIsL, rIsLN, rAdd, rSub, rMod, rNeg, rIadd, rSl, isN_non, isN_bl, isN_int, isN_str, isN_ref, isN_tup, gName, gTup, gCons, gNil, truth, bLen, bAbs, bMin, bMax, bInt, bSum, bTuple, bList, bIsi, clsN, mAppend, mPop, mExtend, mReplaceL, rEqN, rNeN, rNeM, rEqE, rNeE, rInS2, eRev, get_zero, get_succ, put_zero, put_succ, del_zero, del_succ, nthW_zero, nthW_succ, setF_nil, setF_zero, setF_succ, Option.map_some, List.getElem?_cons_zero, List.getElem?_cons_succ, List.map_cons, List.map_nil, List.cons_append, List.nil_append, List.length_cons, List.length_nil, List.replicate, Bool.not_true, Bool.not_false, Bool.false_eq_true, if_false, if_true]
        refine ⟨by decide, fun p hp => ?_⟩
        have T2 := T1.new (o := .lst [.str [117, 110, 100, 111], .str [114, 101, 100, 111]]) hp
        refine ⟨c, T2, by decide, by decide, fun e o2 g0 g1 T3 => ?_⟩
        obtain ⟨pt, hp0⟩ := free_up hp
        have e1 : up (up (up G t o1) p (.lst [.str [117, 110, 100, 111], .str [114, 101, 100, 111]])) t o2 p = some (.lst [.str [117, 110, 100, 111], .str [114, 101, 100, 111]]) := by rw [up_ne pt, up_same]
        have kp3 : KeepBut t G (up (up (up G t o1) p (.lst [.str [117, 110, 100, 111], .str [114, 101, 100, 111]])) t o2) := (kp1.upd hp0).trans .tape
        simp only [rDiv, e1]
        refine ⟨by decide, by decide, ?_⟩
        have h2 : e / 3 = 0 ∨ e / 3 = 1 := by omega
        rcases h2 with h2 | h2 <;> rw [h2]
        · exact (show 0 + 1 + 1 ≤ SZ ∧ Q (W.tup [.str [117, 110, 100, 111], .str []]) _ from ⟨by decide, tape_fin tp T3 kp3 fg fun o To => k .undo o trivial To⟩)
        · exact (show 0 + 1 + 1 ≤ SZ ∧ Q (W.tup [.str [114, 101, 100, 111], .str []]) _ from ⟨by decide, tape_fin tp T3 kp3 fg fun o To => k .redo o trivial To⟩)
      · exact tail T1 kp1
    cases hd : decide (d = 0) with
    | true =>
      simp only [if_true]
      cases h5 : decide ((T.length : Int) < 5) with
      | true =>
        have h5' := of_decide_eq_true h5
        simp only [if_true, startF, sSeq, sSet, sRet, sRetN, sIf, sNext, sDrop, sAsg, sAug, sBrk, sCnt, sThrow, sFld, sFldAug, sPutA, sDput, sFor, iVal, iRng1, iRng2, tV, tTru, tAnd, tOr, tNot, eVar, eC, eOp, eUn, eIf, eAnd, eOr, eNot, eCh, eCh3, eCall, eBlt, eMet, eMakeX, eCallV, eFld, asIns, eTup, eLst, eDnewT, eDnew, eBm, tyW, aCons, aNil, aCs, eFS, eFmt, eJs_nil, eJs_cons, eSl, oNo, oPart, eDget1, eDget2, eDpop1, eDpop2, eDsetd, isDW, isDM, popK, popD, dictOf, rAt, rIx, rDget, rInD, rNotInD, rInB, rIn, rNotIn, rInA, rEq, rNe, eqA, rLt, rLe, rGt, rGe, rIs, rIsNot, rIsL, rIsLN, rAdd, rSub, rMod, rNeg, rIadd, rSl, isN_non, isN_bl, isN_int, isN_str, isN_ref, isN_tup, gName, gTup, gCons, gNil, truth, bLen, bAbs, bMin, bMax, bInt, bSum, bTuple, bList, bIsi, clsN, mAppend, mPop, mExtend, mReplaceL, rEqN, rNeN, rNeM, rEqE, rNeE, rInS2, eRev, get_zero, get_succ, put_zero, put_succ, del_zero, del_succ, nthW_zero, nthW_succ, setF_nil, setF_zero, setF_succ, Option.map_some, List.getElem?_cons_zero, List.getElem?_cons_succ, List.map_cons, List.map_nil, List.cons_append, List.nil_append, List.length_cons, List.length_nil, List.replicate, Bool.not_true, Bool.not_false, Bool.false_eq_true, if_false, if_true, r1, hl2, bStr]
        have hb : T.length = 0 ∨ T.length = 1 ∨ T.length = 2 ∨ T.length = 3 ∨ T.length = 4 := by omega
        have hq : ∀ o, Tape (up G t o) t c → Q (actW (.opn (mname T.length))) (up G t o) := fun o To => k _ o ⟨by omega, rfl⟩ To
        unfold actW mname at hq
        rcases hb with h | h | h | h | h <;> rw [h] at hq ⊢ <;> exact ⟨by decide, by decide, by decide, hq o1 T1⟩
      | false =>
        simp only [Bool.false_eq_true, if_false, sNext]
        refine sSeq_i (sIf_i ?_)
        simp only [tV, eOp, eVar, eC, rLt, get_succ, get_zero]
        exact go
    | false =>
      simp only [Bool.false_eq_true, if_false, sNext]
      refine sSeq_i (sIf_i ?_)
      simp only [tV, eOp, eVar, eC, rLt, get_succ, get_zero]
      exact go
  · exact h.elim

/-! ### k29: an act of the server, and what the law expects of it -/
def wNothing : W := .str [110, 111, 116, 104, 105, 110, 103]
def wInvalid : W := .str [105, 110, 118, 97, 108, 105, 100]
def wUnknown : W := .str [117, 110, 107, 110, 111, 119, 110]
def wDone : W := .str [100, 111, 110, 101]
/-- what an act does to a server at G -/
def DoP (CS CK f : Nat) (S : SS) (α : Rs → Nat) (G : Gh) (Q : QV) : Act → Prop
  | .opn m => ∃ T : TM, S.texts = toD T ∧ tget T m = none ∧ nameOk m ∧ T.length ≤ 5 ∧ S.inp.length ≤ 900 ∧ (∀ p ∈ T, nameOk p.1) ∧
      ∀ G' inp rev α', Ksv CS CK f G' { S with texts := toD (tput T m []), inp := inp, rev := rev, done := [], undone := [] } α' → Frs G α G' α' → inp.length ≤ S.inp.length + 2 → Q wDone G'
  | .undo => LenS S ∧ (S.done = [] → Q wNothing G) ∧ ∀ d q s, S.done = d ++ [(q, s)] → ∃ x, StO S.texts s x ∧ ∀ G' inp rev q', Ksv CS CK f G' { S with texts := putD S.texts (.str s.m) (.str (newX s x)), inp := inp, rev := rev, done := d, undone := S.undone ++ [(q', invS s x)] } α → Frs G α G' α → inp.length ≤ S.inp.length + 1 → Q wDone G'
  | .redo => LenS S ∧ (S.undone = [] → Q wNothing G) ∧ ∀ d q s, S.undone = d ++ [(q, s)] → ∃ x, StO S.texts s x ∧ ∀ G' inp rev q', Ksv CS CK f G' { S with texts := putD S.texts (.str s.m) (.str (newX s x)), inp := inp, rev := rev, done := S.done ++ [(q', invS s x)], undone := d } α → Frs G α G' α → inp.length ≤ S.inp.length + 1 → Q wDone G'
  | .edit m a b new => LenS S ∧ new.length ≤ 4000 ∧ TxOk S.texts ∧ (has S.texts (.str m) = false → Q wUnknown G) ∧ (∀ x, look S.texts (.str m) = some (.str x) → ¬ fitsE x a b new → Q wInvalid G) ∧
      (∀ x, look S.texts (.str m) = some (.str x) → fitsE x a b new → ∀ G' inp rev α' q, Ksv CS CK f G' { S with texts := putD S.texts (.str m) (.str (newX ⟨m, a, b, new⟩ x)), inp := inp, rev := rev, done := S.done ++ [(q, invS ⟨m, a, b, new⟩ x)], undone := [] } α' → Frs G α G' α' → inp.length ≤ S.inp.length + 1 → Q wDone G')
theorem DoP.mono {CS CK f : Nat} {S : SS} {α : Rs → Nat} {G : Gh} {Q Q' : QV} {a : Act} (h : DoP CS CK f S α G Q a) (hq : ∀ w G', Q w G' → Q' w G') : DoP CS CK f S α G Q' a := by
  cases a with
  | opn m =>
    obtain ⟨T, a, b, c, d, e, g, k⟩ := h
    exact ⟨T, a, b, c, d, e, g, fun G' x1 x2 x3 x4 x5 x6 => hq _ _ (k G' x1 x2 x3 x4 x5 x6)⟩
  | undo =>
    obtain ⟨a, b, k⟩ := h
    refine ⟨a, fun z => hq _ _ (b z), fun d q s z => ?_⟩
    obtain ⟨x, h1, h2⟩ := k d q s z
    exact ⟨x, h1, fun G' x1 x2 x3 x4 x5 x6 => hq _ _ (h2 G' x1 x2 x3 x4 x5 x6)⟩
  | redo =>
    obtain ⟨a, b, k⟩ := h
    refine ⟨a, fun z => hq _ _ (b z), fun d q s z => ?_⟩
    obtain ⟨x, h1, h2⟩ := k d q s z
    exact ⟨x, h1, fun G' x1 x2 x3 x4 x5 x6 => hq _ _ (h2 G' x1 x2 x3 x4 x5 x6)⟩
  | edit m a b new =>
    obtain ⟨h1, h2, h3, h4, h5, k⟩ := h
    exact ⟨h1, h2, h3, fun z => hq _ _ (h4 z), fun x z y => hq _ _ (h5 x z y), fun x z y G' x1 x2 x3 x4 x5 x6 x7 => hq _ _ (k x z y G' x1 x2 x3 x4 x5 x6 x7)⟩
def sp_do (CS CK f : Nat) : Sp := fun ws G Q _ => match ws with
  | [.ref v, x] => ∃ (S : SS) (α : Rs → Nat) (a : Act), α .sv = v ∧ x = actW a ∧ Ksv CS CK f G S α ∧ DoP CS CK f S α G Q a
  | _ => False
theorem mono_do (CS CK f : Nat) : Mono (sp_do CS CK f) := by
  intro ws G Q Q' E E' hq he h
  unfold sp_do at h ⊢
  split at h
  · obtain ⟨S, α, a, h1, h2, h3, k⟩ := h
    exact ⟨S, α, a, h1, h2, h3, k.mono hq⟩
  · exact h.elim
theorem len_do (CS CK f : Nat) (ws : List W) (G : Gh) (Q : QV) (E : XQ) (h : sp_do CS CK f ws G Q E) : ws.length = 2 := by
  unfold sp_do at h
  split at h
  · rfl
  · exact h.elim
theorem at_c0 {α : Type} (x : α) (xs : List α) : at_ (x :: xs) 0 = some x := by unfold at_ ixn; simp
theorem at_c1 {α : Type} (x y : α) (xs : List α) : at_ (x :: y :: xs) 1 = some y := by
  have h : (1 : Int).toNat = 1 := rfl
  unfold at_ ixn; simp [h]
theorem at_c2 {α : Type} (x y z : α) (xs : List α) : at_ (x :: y :: z :: xs) 2 = some z := by
  have h : (2 : Int).toNat = 2 := rfl
  unfold at_ ixn; simp [h]
theorem vc_do (CS CK f CN CI CU CE : Nat) (h1 : CI ≠ CN) (h2 : CU ≠ CN) (h3 : CU ≠ CI) (ws : List W) (G : Gh) (Q : QV) (E : XQ) (fg : Fgt Q E) (h : sp_do CS CK f ws G Q E) :
    rd_law_do CN CI CU CS CE (sp_edit CS CK f CU CI) (sp_undo CS CK f CN) (sp_redo CS CK f CN) (sp_open CS CK f) { nx := fun _ G' => Q .non G', rt := Q, ex := fun _ => E } (startF 3 ws) G := by
  unfold sp_do at h
  split at h
  · rename_i v x
    obtain ⟨S, α, a, rfl, rfl, K, k⟩ := h
    have hv := K.hv
    have w1 : decide (([117, 110, 100, 111] : List Nat) = [101, 100, 105, 116]) = false := by decide
    have w2 : decide (([114, 101, 100, 111] : List Nat) = [101, 100, 105, 116]) = false := by decide
    have w3 : decide (([114, 101, 100, 111] : List Nat) = [117, 110, 100, 111]) = false := by decide
    have w4 : decide (([111, 112, 101, 110] : List Nat) = [101, 100, 105, 116]) = false := by decide
    have w5 : decide (([111, 112, 101, 110] : List Nat) = [117, 110, 100, 111]) = false := by decide
    have w6 : decide (([111, 112, 101, 110] : List Nat) = [114, 101, 100, 111]) = false := by decide
    cases a with
    | undo =>
      simp only [rd_law_do, sTryMany, startF, sSeq, sSet, sRet, sRetN, sIf, sNext, sDrop, sAsg, sAug, sBrk, sCnt, sThrow, sFld, sFldAug, sPutA, sDput, sFor, iVal, iRng1, iRng2, tV, tTru, tAnd, tOr, tNot, eVar, eC, eOp, eUn, eIf, eAnd, eOr, eNot, eCh, eCh3, eCall, eBlt, eMet, eMakeX, eCallV, eFld, asIns, eTup, eLst, eDnewT, eDnew, eBm, tyW, aCons, aNil, aCs, eFS, eFmt, eJs_nil, eJs_cons, eSl, oNo, oPart, eDget1, eDget2, eDpop1, eDpop2, eDsetd, isDW, isDM, popK, popD, dictOf, rAt, rIx, rDget, rInD, rNotInD, rInB, rIn, rNotIn, rInA, rEq, rNe, eqA, rLt, rLe, rGt, rGe, rIs, rIsNot, rIsL, rIsLN, rAdd, rSub, rMod, rNeg, rIadd, rSl, isN_non, isN_bl, isN_int, isN_str, isN_ref, isN_tup, gName, gTup, gCons, gNil, truth, bLen, bAbs, bMin, bMax, bInt, bSum, bTuple, bList, bIsi, clsN, mAppend, mPop, mExtend, mReplaceL, rEqN, rNeN, rNeM, rEqE, rNeE, rInS2, eRev, get_zero, get_succ, put_zero, put_succ, del_zero, del_succ, nthW_zero, nthW_succ, setF_nil, setF_zero, setF_succ, Option.map_some, List.getElem?_cons_zero, List.getElem?_cons_succ, List.map_cons, List.map_nil, List.cons_append, List.nil_append, List.length_cons, List.length_nil, List.replicate, Bool.not_true, Bool.not_false, Bool.false_eq_true, if_false, if_true, actW, hv, at_c0, w1, decide_true, true_and]
      obtain ⟨hl, k1, k2⟩ := k
      refine ⟨S, α, rfl, K, hl, fun e => ?_, k2⟩
      refine ⟨rfl, ?_⟩
      unfold clsX
      rw [if_pos rfl]
      intro b hb
      simp only [startF, sSeq, sSet, sRet, sRetN, sIf, sNext, sDrop, sAsg, sAug, sBrk, sCnt, sThrow, sFld, sFldAug, sPutA, sDput, sFor, iVal, iRng1, iRng2, tV, tTru, tAnd, tOr, tNot, eVar, eC, eOp, eUn, eIf, eAnd, eOr, eNot, eCh, eCh3, eCall, eBlt, eMet, eMakeX, eCallV, eFld, asIns, eTup, eLst, eDnewT, eDnew, eBm, tyW, aCons, aNil, aCs, eFS, eFmt, eJs_nil, eJs_cons, eSl, oNo, oPart, eDget1, eDget2, eDpop1, eDpop2, eDsetd, isDW, isDM, popK, popD, dictOf, rAt, rIx, rDget, rInD, rNotInD, rInB, rIn, rNotIn, rInA, rEq, rNe, eqA, rLt, rLe, rGt, rGe, rIs, rIsNot, rIsL, rIsLN, rAdd, rSub, rMod, rNeg, rIadd, rSl, isN_non, isN_bl, isN_int, isN_str, isN_ref, isN_tup, gName, gTup, gCons, gNil, truth, bLen, bAbs, bMin, bMax, bInt, bSum, bTuple, bList, bIsi, clsN, mAppend, mPop, mExtend, mReplaceL, rEqN, rNeN, rNeM, rEqE, rNeE, rInS2, eRev, get_zero, get_succ, put_zero, put_succ, del_zero, del_succ, nthW_zero, nthW_succ, setF_nil, setF_zero, setF_succ, Option.map_some, List.getElem?_cons_zero, List.getElem?_cons_succ, List.map_cons, List.map_nil, List.cons_append, List.nil_append, List.length_cons, List.length_nil, List.replicate, Bool.not_true, Bool.not_false, Bool.false_eq_true, if_false, if_true, bIsE, and_self, true_and]
      exact k1 e
    | redo =>
      simp only [rd_law_do, sTryMany, startF, sSeq, sSet, sRet, sRetN, sIf, sNext, sDrop, sAsg, sAug, sBrk, sCnt, sThrow, sFld, sFldAug, sPutA, sDput, sFor, iVal, iRng1, iRng2, tV, tTru, tAnd, tOr, tNot, eVar, eC, eOp, eUn, eIf, eAnd, eOr, eNot, eCh, eCh3, eCall, eBlt, eMet, eMakeX, eCallV, eFld, asIns, eTup, eLst, eDnewT, eDnew, eBm, tyW, aCons, aNil, aCs, eFS, eFmt, eJs_nil, eJs_cons, eSl, oNo, oPart, eDget1, eDget2, eDpop1, eDpop2, eDsetd, isDW, isDM, popK, popD, dictOf, rAt, rIx, rDget, rInD, rNotInD, rInB, rIn, rNotIn, rInA, rEq, rNe, eqA, rLt, rLe, rGt, rGe, rIs, rIsNot, rIsL, rIsLN, rAdd, rSub, rMod, rNeg, rIadd, rSl, isN_non, isN_bl, isN_int, isN_str, isN_ref, isN_tup, gName, gTup, gCons, gNil, truth, bLen, bAbs, bMin, bMax, bInt, bSum, bTuple, bList, bIsi, clsN, mAppend, mPop, mExtend, mReplaceL, rEqN, rNeN, rNeM, rEqE, rNeE, rInS2, eRev, get_zero, get_succ, put_zero, put_succ, del_zero, del_succ, nthW_zero, nthW_succ, setF_nil, setF_zero, setF_succ, Option.map_some, List.getElem?_cons_zero, List.getElem?_cons_succ, List.map_cons, List.map_nil, List.cons_append, List.nil_append, List.length_cons, List.length_nil, List.replicate, Bool.not_true, Bool.not_false, Bool.false_eq_true, if_false, if_true, actW, hv, at_c0, w2, w3, decide_true, true_and]
      obtain ⟨hl, k1, k2⟩ := k
      refine ⟨S, α, rfl, K, hl, fun e => ?_, k2⟩
      refine ⟨rfl, ?_⟩
      unfold clsX
      rw [if_pos rfl]
      intro b hb
      simp only [startF, sSeq, sSet, sRet, sRetN, sIf, sNext, sDrop, sAsg, sAug, sBrk, sCnt, sThrow, sFld, sFldAug, sPutA, sDput, sFor, iVal, iRng1, iRng2, tV, tTru, tAnd, tOr, tNot, eVar, eC, eOp, eUn, eIf, eAnd, eOr, eNot, eCh, eCh3, eCall, eBlt, eMet, eMakeX, eCallV, eFld, asIns, eTup, eLst, eDnewT, eDnew, eBm, tyW, aCons, aNil, aCs, eFS, eFmt, eJs_nil, eJs_cons, eSl, oNo, oPart, eDget1, eDget2, eDpop1, eDpop2, eDsetd, isDW, isDM, popK, popD, dictOf, rAt, rIx, rDget, rInD, rNotInD, rInB, rIn, rNotIn, rInA, rEq, rNe, eqA, rLt, rLe, rGt, rGe, rIs, rIsNot, rIsL, rIsLN, rAdd, rSub, rMod, rNeg, rIadd, rSl, isN_non, isN_bl, isN_int, isN_str, isN_ref, isN_tup, gName, gTup, gCons, gNil, truth, bLen, bAbs, bMin, bMax, bInt, bSum, bTuple, bList, bIsi, clsN, mAppend, mPop, mExtend, mReplaceL, rEqN, rNeN, rNeM, rEqE, rNeE, rInS2, eRev, get_zero, get_succ, put_zero, put_succ, del_zero, del_succ, nthW_zero, nthW_succ, setF_nil, setF_zero, setF_succ, Option.map_some, List.getElem?_cons_zero, List.getElem?_cons_succ, List.map_cons, List.map_nil, List.cons_append, List.nil_append, List.length_cons, List.length_nil, List.replicate, Bool.not_true, Bool.not_false, Bool.false_eq_true, if_false, if_true, bIsE, and_self, true_and]
      exact k1 e
    | opn m =>
      simp only [rd_law_do, sTryMany, startF, sSeq, sSet, sRet, sRetN, sIf, sNext, sDrop, sAsg, sAug, sBrk, sCnt, sThrow, sFld, sFldAug, sPutA, sDput, sFor, iVal, iRng1, iRng2, tV, tTru, tAnd, tOr, tNot, eVar, eC, eOp, eUn, eIf, eAnd, eOr, eNot, eCh, eCh3, eCall, eBlt, eMet, eMakeX, eCallV, eFld, asIns, eTup, eLst, eDnewT, eDnew, eBm, tyW, aCons, aNil, aCs, eFS, eFmt, eJs_nil, eJs_cons, eSl, oNo, oPart, eDget1, eDget2, eDpop1, eDpop2, eDsetd, isDW, isDM, popK, popD, dictOf, rAt, rIx, rDget, rInD, rNotInD, rInB, rIn, rNotIn, rInA, rEq, rNe, eqA, rLt, rLe, rGt, rGe, rIs, rIsNot, rIsL, rIsLN, rAdd, rSub, rMod, rNeg, rIadd, rSl, isN_non, isN_bl, isN_int, isN_str, isN_ref, isN_tup, gName, gTup, gCons, gNil, truth, bLen, bAbs, bMin, bMax, bInt, bSum, bTuple, bList, bIsi, clsN, mAppend, mPop, mExtend, mReplaceL, rEqN, rNeN, rNeM, rEqE, rNeE, rInS2, eRev, get_zero, get_succ, put_zero, put_succ, del_zero, del_succ, nthW_zero, nthW_succ, setF_nil, setF_zero, setF_succ, Option.map_some, List.getElem?_cons_zero, List.getElem?_cons_succ, List.map_cons, List.map_nil, List.cons_append, List.nil_append, List.length_cons, List.length_nil, List.replicate, Bool.not_true, Bool.not_false, Bool.false_eq_true, if_false, if_true, actW, hv, at_c0, at_c1, w4, w5, w6, true_and]
      obtain ⟨T, a, b, c, d, e, g, k⟩ := k
      exact ⟨S, α, T, rfl, K, a, b, c, fun _ z => (nomatch z), by simp, d, e, g, k⟩
    | edit m a b new =>
      simp only [rd_law_do, sTryMany, startF, sSeq, sSet, sRet, sRetN, sIf, sNext, sDrop, sAsg, sAug, sBrk, sCnt, sThrow, sFld, sFldAug, sPutA, sDput, sFor, iVal, iRng1, iRng2, tV, tTru, tAnd, tOr, tNot, eVar, eC, eOp, eUn, eIf, eAnd, eOr, eNot, eCh, eCh3, eCall, eBlt, eMet, eMakeX, eCallV, eFld, asIns, eTup, eLst, eDnewT, eDnew, eBm, tyW, aCons, aNil, aCs, eFS, eFmt, eJs_nil, eJs_cons, eSl, oNo, oPart, eDget1, eDget2, eDpop1, eDpop2, eDsetd, isDW, isDM, popK, popD, dictOf, rAt, rIx, rDget, rInD, rNotInD, rInB, rIn, rNotIn, rInA, rEq, rNe, eqA, rLt, rLe, rGt, rGe, rIs, rIsNot, rIsL, rIsLN, rAdd, rSub, rMod, rNeg, rIadd, rSl, isN_non, isN_bl, isN_int, isN_str, isN_ref, isN_tup, gName, gTup, gCons, gNil, truth, bLen, bAbs, bMin, bMax, bInt, bSum, bTuple, bList, bIsi, clsN, mAppend, mPop, mExtend, mReplaceL, rEqN, rNeN, rNeM, rEqE, rNeE, rInS2, eRev, get_zero, get_succ, put_zero, put_succ, del_zero, del_succ, nthW_zero, nthW_succ, setF_nil, setF_zero, setF_succ, Option.map_some, List.getElem?_cons_zero, List.getElem?_cons_succ, List.map_cons, List.map_nil, List.cons_append, List.nil_append, List.length_cons, List.length_nil, List.replicate, Bool.not_true, Bool.not_false, Bool.false_eq_true, if_false, if_true, actW, hv, at_c0, at_c1, at_c2, decide_true, true_and]
      obtain ⟨hl, hn, ht, k1, k2, k3⟩ := k
      refine ⟨S, α, rfl, K, hl, hn, ht, fun e => ?_, fun x e1 e2 => ?_, k3⟩
      · refine ⟨rfl, ?_⟩
        simp only [clsX, h2, h3, if_false, if_true]
        intro b hb
        exact k1 e
      · refine ⟨rfl, ?_⟩
        simp only [clsX, h1, if_false, if_true]
        intro b hb
        exact k2 x e1 e2
  · exact h.elim
/-! _law_expected -/
/-- what the law's record becomes -/
def ExP (w P F : Nat) (past fut : List (Nat × TM)) (T : TM) (G : Gh) (Q : QV) : Act → Prop
  | .opn m => ∀ G' P' F' q, Hk G' w P' F' [(q, tput T m [])] [] → G P' = none → G F' = none → G q = none → Hs G w P F G' → Q wDone G'
  | .undo => (past.length = 1 → Q wNothing G) ∧ ∀ p x, past = p ++ [x] → p ≠ [] → ∀ G', Hk G' w P F p (fut ++ [x]) → Hs G w P F G' → Q wDone G'
  | .redo => (fut = [] → ∀ G', Le G G' → Q wNothing G') ∧ ∀ p x, fut = p ++ [x] → ∀ G', Hk G' w P F (past ++ [x]) p → Hs G w P F G' → Q wDone G'
  | .edit m a b new => (tget T m = none → ∀ G', Le G G' → Q wUnknown G') ∧ ∀ x, tget T m = some x → x.length ≤ 100000 ∧ new.length ≤ 100000 ∧ (¬ (0 ≤ a ∧ a ≤ b ∧ b ≤ x.length) → ∀ G', Le G G' → Q wInvalid G') ∧
      (0 ≤ a ∧ a ≤ b ∧ b ≤ x.length → ∀ G' F' q, Hk G' w P F' (past ++ [(q, tput T m (edited x a.toNat b.toNat new))]) [] → G F' = none → G q = none → Hs G w P F G' → Q wDone G')
theorem ExP.mono {w P F : Nat} {past fut : List (Nat × TM)} {T : TM} {G : Gh} {Q Q' : QV} {a : Act} (h : ExP w P F past fut T G Q a) (hq : ∀ w G', Q w G' → Q' w G') : ExP w P F past fut T G Q' a := by
  cases a with
  | opn m => exact fun G' x1 x2 x3 x4 x5 x6 x7 x8 => hq _ _ (h G' x1 x2 x3 x4 x5 x6 x7 x8)
  | undo => exact ⟨fun z => hq _ _ (h.1 z), fun p x e n G' x1 x2 => hq _ _ (h.2 p x e n G' x1 x2)⟩
  | redo => exact ⟨fun z G' x => hq _ _ (h.1 z G' x), fun p x e G' x1 x2 => hq _ _ (h.2 p x e G' x1 x2)⟩
  | edit m a b new => exact ⟨fun z G' x => hq _ _ (h.1 z G' x), fun x z => ⟨(h.2 x z).1, (h.2 x z).2.1, fun y G' x1 => hq _ _ ((h.2 x z).2.2.1 y G' x1), fun y G' x1 x2 x3 x4 x5 x6 => hq _ _ ((h.2 x z).2.2.2 y G' x1 x2 x3 x4 x5 x6)⟩⟩
def sp_exp : Sp := fun ws G Q _ => match ws with
  | [.ref w, y] => ∃ P F past fut r T a, y = actW a ∧ Hk G w P F past fut ∧ past.getLast? = some (r, T) ∧ past.length ≤ 1000 ∧ fut.length ≤ 1000 ∧ T.length ≤ 1000 ∧ ExP w P F past fut T G Q a
  | _ => False
theorem mono_exp : Mono sp_exp := by
  intro ws G Q Q' E E' hq he h
  unfold sp_exp at h ⊢
  split at h
  · obtain ⟨P, F, past, fut, r, T, a, h1, h2, h3, h4, h5, h6, k⟩ := h
    exact ⟨P, F, past, fut, r, T, a, h1, h2, h3, h4, h5, h6, k.mono hq⟩
  · exact h.elim
theorem len_exp (ws : List W) (G : Gh) (Q : QV) (E : XQ) (h : sp_exp ws G Q E) : ws.length = 2 := by
  unfold sp_exp at h
  split at h
  · rfl
  · exact h.elim
theorem vc_exp (ws : List W) (G : Gh) (Q : QV) (E : XQ) (fg : Fgt Q E) (h : sp_exp ws G Q E) : rd_law_expected { nx := fun _ G' => Q .non G', rt := Q, ex := fun _ => E } (startF 8 ws) G := by
  unfold sp_exp at h
  split at h
  · rename_i w y
    obtain ⟨P, F, past, fut, r, T, a, rfl, K, hl, lp, lf, lT, k⟩ := h
    have hSZ : SZ = 16777216 := rfl
    obtain ⟨p0, e0⟩ : ∃ p0, past = p0 ++ [(r, T)] := by
      obtain ⟨p0, x, e⟩ := List.eq_nil_or_concat past |>.resolve_left (by rintro rfl; cases hl)
      exact ⟨p0, by rw [e] at hl ⊢; simp at hl ⊢; exact hl⟩
    have hm : (r, T) ∈ past := by rw [e0]; simp
    have hP := K.hP
    have hF := K.hF
    have hw := K.hw
    have eP : look (knD P F) (.str [112, 97, 115, 116]) = some (.ref P) := rfl
    have eF : look (knD P F) (.str [102, 117, 116, 117, 114, 101]) = some (.ref F) := rfl
    have lst : at_ (past.map fun x => W.ref x.1) (-1) = some (.ref r) := by rw [e0, List.map_append]; exact at_last _ _
    have hr := K.at_ _ (.inl hm)
    have w1 : decide (([101, 100, 105, 116] : List Nat) = [117, 110, 100, 111]) = false := by decide
    have w2 : decide (([101, 100, 105, 116] : List Nat) = [114, 101, 100, 111]) = false := by decide
    have w3 : decide (([101, 100, 105, 116] : List Nat) = [111, 112, 101, 110]) = false := by decide
    have w4 : decide (([114, 101, 100, 111] : List Nat) = [117, 110, 100, 111]) = false := by decide
    have w5 : decide (([111, 112, 101, 110] : List Nat) = [117, 110, 100, 111]) = false := by decide
    have w6 : decide (([111, 112, 101, 110] : List Nat) = [114, 101, 100, 111]) = false := by decide
    have hl2 : (toD T).length = T.length := by unfold toD; rw [List.length_map]
    have pushF : ∀ x : Nat × TM, (fut.map fun x => W.ref x.1) ++ [W.ref x.1] = (fut ++ [x]).map fun x => W.ref x.1 := fun x => by rw [List.map_append]; rfl
    have pushP : ∀ x : Nat × TM, (past.map fun x => W.ref x.1) ++ [W.ref x.1] = (past ++ [x]).map fun x => W.ref x.1 := fun x => by rw [List.map_append]; rfl
    cases a with
    | undo =>
      obtain ⟨k1, k2⟩ := k
      simp only [rd_law_expected, startF, sSeq, sSet, sRet, sRetN, sIf, sNext, sDrop, sAsg, sAug, sBrk, sCnt, sThrow, sFld, sFldAug, sPutA, sDput, sFor, iVal, iRng1, iRng2, tV, tTru, tAnd, tOr, tNot, eVar, eC, eOp, eUn, eIf, eAnd, eOr, eNot, eCh, eCh3, eCall, eBlt, eMet, eMakeX, eCallV, eFld, asIns, eTup, eLst, eDnewT, eDnew, eBm, tyW, aCons, aNil, aCs, eFS, eFmt, eJs_nil, eJs_cons, eSl, oNo, oPart, eDget1, eDget2, eDpop1, eDpop2, eDsetd, isDW, isDM, popK, popD, dictOf, rAt, rIx, rDget, rInD, rNotInD, rInB, rIn, rNotIn, rInA, rEq, rNe, eqA, rLt, rLe, rGt, rGe, rIs, rIsNot, rIsL, rIsLN, rAdd, rSub, rMod, rNeg, rIadd, rSl, isN_non, isN_bl, isN_int, isN_str, isN_ref, isN_tup, gName, gTup, gCons, gNil, truth, bLen, bAbs, bMin, bMax, bInt, bSum, bTuple, bList, bIsi, clsN, mAppend, mPop, mExtend, mReplaceL, rEqN, rNeN, rNeM, rEqE, rNeE, rInS2, eRev, get_zero, get_succ, put_zero, put_succ, del_zero, del_succ, nthW_zero, nthW_succ, setF_nil, setF_zero, setF_succ, Option.map_some, List.getElem?_cons_zero, List.getElem?_cons_succ, List.map_cons, List.map_nil, List.cons_append, List.nil_append, List.length_cons, List.length_nil, List.replicate, Bool.not_true, Bool.not_false, Bool.false_eq_true, if_false, if_true, actW, hw, eP, eF, hP, hF, lst, at_c0, key1_str, decide_true, true_and, List.length_map]
      by_cases h1 : past.length = 1
      · rw [if_pos (decide_eq_true (by omega))]
        exact k1 h1
      · rw [if_neg (by rw [decide_eq_false (by omega)]; decide)]
        have n1 : (past.map fun x => W.ref x.1).getLast? = some (.ref r) := by rw [e0]; simp
        have n2 : (past.map fun x => W.ref x.1).dropLast = p0.map fun x => W.ref x.1 := by rw [e0]; simp
        have n3 : p0 ≠ [] := by rintro rfl; rw [e0] at h1; exact h1 rfl
        rw [n1, n2]
        have K1 := K.setP (past' := p0) fun x hx => K.at_ x (.inl (by rw [e0]; exact List.mem_append_left _ hx))
        have hF1 := K1.hF
        simp only [hF1, pushF (r, T)]
        refine ⟨by rw [List.length_map]; omega, ?_⟩
        have K2 := K1.setF (fut' := fut ++ [(r, T)]) fun x hx => by
          rcases List.mem_append.mp hx with hx | hx
          · exact K1.at_ x (.inr hx)
          · rw [List.mem_singleton.mp hx, up_ne (K.nw (.inl hm)).2.1]
            exact hr
        exact k2 p0 (r, T) e0 n3 _ K2 fun b o b1 b2 b3 e => by rw [up_ne b3, up_ne b2]; exact e
    | redo =>
      obtain ⟨k1, k2⟩ := k
      simp only [rd_law_expected, startF, sSeq, sSet, sRet, sRetN, sIf, sNext, sDrop, sAsg, sAug, sBrk, sCnt, sThrow, sFld, sFldAug, sPutA, sDput, sFor, iVal, iRng1, iRng2, tV, tTru, tAnd, tOr, tNot, eVar, eC, eOp, eUn, eIf, eAnd, eOr, eNot, eCh, eCh3, eCall, eBlt, eMet, eMakeX, eCallV, eFld, asIns, eTup, eLst, eDnewT, eDnew, eBm, tyW, aCons, aNil, aCs, eFS, eFmt, eJs_nil, eJs_cons, eSl, oNo, oPart, eDget1, eDget2, eDpop1, eDpop2, eDsetd, isDW, isDM, popK, popD, dictOf, rAt, rIx, rDget, rInD, rNotInD, rInB, rIn, rNotIn, rInA, rEq, rNe, eqA, rLt, rLe, rGt, rGe, rIs, rIsNot, rIsL, rIsLN, rAdd, rSub, rMod, rNeg, rIadd, rSl, isN_non, isN_bl, isN_int, isN_str, isN_ref, isN_tup, gName, gTup, gCons, gNil, truth, bLen, bAbs, bMin, bMax, bInt, bSum, bTuple, bList, bIsi, clsN, mAppend, mPop, mExtend, mReplaceL, rEqN, rNeN, rNeM, rEqE, rNeE, rInS2, eRev, get_zero, get_succ, put_zero, put_succ, del_zero, del_succ, nthW_zero, nthW_succ, setF_nil, setF_zero, setF_succ, Option.map_some, List.getElem?_cons_zero, List.getElem?_cons_succ, List.map_cons, List.map_nil, List.cons_append, List.nil_append, List.length_cons, List.length_nil, List.replicate, Bool.not_true, Bool.not_false, Bool.false_eq_true, if_false, if_true, actW, hw, eP, eF, hP, hF, lst, at_c0, key1_str, decide_true, true_and, List.length_map, w4]
      refine ⟨by decide, fun q hq => ?_⟩
      have F1 : up G q (.lst []) F = some (refsT fut) := Le.up hq _ _ hF
      have P1 : up G q (.lst []) P = some (refsT past) := Le.up hq _ _ hP
      have W1 : up G q (.lst []) w = some (.dct (knD P F)) := Le.up hq _ _ hw
      have K1 := K.le (Le.up (o := .lst []) hq)
      simp only [F1, P1, W1, up_same, eF, eP]
      rcases List.eq_nil_or_concat fut with h0 | ⟨d, x, h0⟩
      · subst h0
        exact k1 rfl _ (Le.up hq)
      · rw [List.concat_eq_append] at h0
        have n0 : (fut.map fun x => W.ref x.1).isEmpty = false := by rw [h0]; simp
        have n1 : (fut.map fun x => W.ref x.1).getLast? = some (.ref x.1) := by rw [h0]; simp
        have n2 : (fut.map fun x => W.ref x.1).dropLast = d.map fun x => W.ref x.1 := by rw [h0]; simp
        rw [n0, if_neg (by decide)]
        simp only [n1, n2]
        have K2 := K1.setF (fut' := d) fun y hy => K1.at_ y (.inr (by rw [h0]; exact List.mem_append_left _ hy))
        have P2 := K2.hP
        simp only [P2, pushP x, true_and]
        refine ⟨by rw [List.length_map]; omega, ?_⟩
        have hx : x ∈ fut := by rw [h0]; simp
        have K3 := K2.setP (past' := past ++ [x]) fun y hy => by
          rcases List.mem_append.mp hy with hy | hy
          · exact K2.at_ y (.inl hy)
          · rw [List.mem_singleton.mp hy, up_ne (K.nw (.inr hx)).2.2]
            exact K1.at_ x (.inr hx)
        exact k2 d x h0 _ K3 fun b o b1 b2 b3 e => by rw [up_ne b2, up_ne b3]; exact Le.up hq _ _ e
    | opn m =>
      simp only [rd_law_expected, startF, sSeq, sSet, sRet, sRetN, sIf, sNext, sDrop, sAsg, sAug, sBrk, sCnt, sThrow, sFld, sFldAug, sPutA, sDput, sFor, iVal, iRng1, iRng2, tV, tTru, tAnd, tOr, tNot, eVar, eC, eOp, eUn, eIf, eAnd, eOr, eNot, eCh, eCh3, eCall, eBlt, eMet, eMakeX, eCallV, eFld, asIns, eTup, eLst, eDnewT, eDnew, eBm, tyW, aCons, aNil, aCs, eFS, eFmt, eJs_nil, eJs_cons, eSl, oNo, oPart, eDget1, eDget2, eDpop1, eDpop2, eDsetd, isDW, isDM, popK, popD, dictOf, rAt, rIx, rDget, rInD, rNotInD, rInB, rIn, rNotIn, rInA, rEq, rNe, eqA, rLt, rLe, rGt, rGe, rIs, rIsNot, rIsL, rIsLN, rAdd, rSub, rMod, rNeg, rIadd, rSl, isN_non, isN_bl, isN_int, isN_str, isN_ref, isN_tup, gName, gTup, gCons, gNil, truth, bLen, bAbs, bMin, bMax, bInt, bSum, bTuple, bList, bIsi, clsN, mAppend, mPop, mExtend, mReplaceL, rEqN, rNeN, rNeM, rEqE, rNeE, rInS2, eRev, get_zero, get_succ, put_zero, put_succ, del_zero, del_succ, nthW_zero, nthW_succ, setF_nil, setF_zero, setF_succ, Option.map_some, List.getElem?_cons_zero, List.getElem?_cons_succ, List.map_cons, List.map_nil, List.cons_append, List.nil_append, List.length_cons, List.length_nil, List.replicate, Bool.not_true, Bool.not_false, Bool.false_eq_true, if_false, if_true, actW, hw, eP, eF, hP, hF, lst, at_c0, at_c1, key1_str, decide_true, true_and, List.length_map, w5, w6, bDict, hr, sDput]
      intro q hq
      simp only [up_same]
      refine ⟨by omega, ?_⟩
      rw [putD_toD, up_up]
      refine ⟨by decide, fun p hp => ?_⟩
      obtain ⟨pq, hp0⟩ := free_up hp
      have wq := ne_free' hw hq
      have wp := ne_free' hw hp0
      have W1 : up (up G q (.dct (toD (tput T m [])))) p (.lst [.ref q]) w = some (.dct (knD P F)) := by rw [up_ne wp, up_ne wq]; exact hw
      simp only [W1]
      refine ⟨by show 2 < SZ; decide, by decide, fun p1 hp1 => ?_⟩
      obtain ⟨p1w, hp1⟩ := free_up hp1
      obtain ⟨p1p, hp1⟩ := free_up hp1
      obtain ⟨p1q, hp1⟩ := free_up hp1
      have e1 : putD (knD P F) (.str [112, 97, 115, 116]) (.ref p) = knD p F := rfl
      have e2 : putD (knD p F) (.str [102, 117, 116, 117, 114, 101]) (.ref p1) = knD p p1 := rfl
      simp only [up_ne p1w.symm, up_same, e1, e2]
      refine ⟨by show 2 < SZ; decide, ?_⟩
      refine k _ p p1 q ⟨up_same, ?_, ?_, p1p.symm, fun x hx => ?_⟩ hp0 hp1 hq fun b o b1 b2 b3 e => ?_
      · rw [up_ne wp.symm, up_ne p1p.symm, up_ne wp.symm, up_same]; rfl
      · rw [up_ne p1w, up_same]; rfl
      · rcases hx with hx | hx
        · rw [List.mem_singleton.mp hx, up_ne wq.symm, up_ne p1q.symm, up_ne wq.symm, up_ne pq.symm, up_same]
        · cases hx
      · rw [up_ne b1, up_ne (ne_free' e hp1), up_ne b1, up_ne (ne_free' e hp0), up_ne (ne_free' e hq)]; exact e
    | edit m a b new =>
      obtain ⟨k1, k2⟩ := k
      simp only [rd_law_expected, startF, sSeq, sSet, sRet, sRetN, sIf, sNext, sDrop, sAsg, sAug, sBrk, sCnt, sThrow, sFld, sFldAug, sPutA, sDput, sFor, iVal, iRng1, iRng2, tV, tTru, tAnd, tOr, tNot, eVar, eC, eOp, eUn, eIf, eAnd, eOr, eNot, eCh, eCh3, eCall, eBlt, eMet, eMakeX, eCallV, eFld, asIns, eTup, eLst, eDnewT, eDnew, eBm, tyW, aCons, aNil, aCs, eFS, eFmt, eJs_nil, eJs_cons, eSl, oNo, oPart, eDget1, eDget2, eDpop1, eDpop2, eDsetd, isDW, isDM, popK, popD, dictOf, rAt, rIx, rDget, rInD, rNotInD, rInB, rIn, rNotIn, rInA, rEq, rNe, eqA, rLt, rLe, rGt, rGe, rIs, rIsNot, rIsL, rIsLN, rAdd, rSub, rMod, rNeg, rIadd, rSl, isN_non, isN_bl, isN_int, isN_str, isN_ref, isN_tup, gName, gTup, gCons, gNil, truth, bLen, bAbs, bMin, bMax, bInt, bSum, bTuple, bList, bIsi, clsN, mAppend, mPop, mExtend, mReplaceL, rEqN, rNeN, rNeM, rEqE, rNeE, rInS2, eRev, get_zero, get_succ, put_zero, put_succ, del_zero, del_succ, nthW_zero, nthW_succ, setF_nil, setF_zero, setF_succ, Option.map_some, List.getElem?_cons_zero, List.getElem?_cons_succ, List.map_cons, List.map_nil, List.cons_append, List.nil_append, List.length_cons, List.length_nil, List.replicate, Bool.not_true, Bool.not_false, Bool.false_eq_true, if_false, if_true, actW, hw, eP, eF, hP, hF, lst, at_c0, at_c1, at_c2, key1_str, decide_true, true_and, List.length_map, w1, w2, w3, bDict, hr, sDput]
      intro q hq
      have l1 : Le G (up G q (.dct (toD T))) := Le.up hq
      have R1 : up G q (.dct (toD T)) r = some (.dct (toD T)) := l1 _ _ hr
      have K1 := K.le l1
      have wq := ne_free' hw hq
      have Pq := ne_free' hP hq
      have Fq := ne_free' hF hq
      have eq0 : up G q (.dct (toD T)) q = some (.dct (toD T)) := up_same
      simp only [R1, has_toD, key1_str, true_and]
      cases em : tget T m with
      | none =>
        simp only [Option.isSome_none, Bool.not_false, if_true]
        exact k1 em _ l1
      | some x =>
        obtain ⟨lx, ln, k3, k4⟩ := k2 x em
        have e1 : look (toD T) (.str m) = some (.str x) := by rw [look_toD, em]; rfl
        simp only [Option.isSome_some, Bool.not_true, Bool.false_eq_true, if_false, R1, e1]
        by_cases h1 : (0 : Int) ≤ a
        · rw [decide_eq_true h1]
          dsimp only
          by_cases h2 : a ≤ b
          · rw [decide_eq_true h2]
            dsimp only
            refine ⟨by omega, ?_⟩
            by_cases h3 : b ≤ (x.length : Int)
            · rw [decide_eq_true h3]
              simp only [Bool.not_true, Bool.false_eq_true, if_false]
              obtain ⟨a, rfl⟩ := Int.eq_ofNat_of_zero_le h1
              obtain ⟨b, rfl⟩ := Int.eq_ofNat_of_zero_le (Int.le_trans h1 h2)
              have c1 : cut x none (some (a : Int)) = x.take a := cut_to (by omega)
              have c2 : cut x (some (b : Int)) none = x.drop b := cut_from (by omega)
              simp only [c1, c2, eq0]
              refine ⟨by omega, by rw [List.length_take]; omega, by omega, by rw [List.length_append, List.length_take, List.length_drop]; omega, by omega, ?_⟩
              have e3 : x.take a ++ new ++ x.drop b = edited x a b new := rfl
              rw [e3, putD_toD, up_up]
              have W1 : up G q (.dct (toD (tput T m (edited x a b new)))) w = some (.dct (knD P F)) := by rw [up_ne wq]; exact hw
              have P1 : up G q (.dct (toD (tput T m (edited x a b new)))) P = some (.lst (past.map fun x => W.ref x.1)) := by rw [up_ne Pq]; exact hP
              have Q1 : up G q (.dct (toD (tput T m (edited x a b new)))) q = some (.dct (toD (tput T m (edited x a b new)))) := up_same
              have K3 := K.le (Le.up (o := .dct (toD (tput T m (edited x a b new)))) hq)
              have out : ∀ z o, G z = some o → up G q (.dct (toD (tput T m (edited x a b new)))) z = some o := fun z o e => Le.up hq z o e
              generalize up G q (.dct (toD (tput T m (edited x a b new)))) = G2 at W1 P1 Q1 K3 out ⊢
              simp only [W1, eP, P1, true_and, pushP (q, tput T m (edited x a b new))]
              refine ⟨by rw [List.length_map]; omega, by decide, fun f hf => ?_⟩
              have K4 := K3.setP (past' := past ++ [(q, tput T m (edited x a b new))]) fun y hy => by
                rcases List.mem_append.mp hy with hy | hy
                · exact K3.at_ y (.inl hy)
                · rw [List.mem_singleton.mp hy]; exact Q1
              obtain ⟨fP, hf0⟩ := free_up hf
              have hf1 : G f = none := by
                cases e : G f with
                | none => rfl
                | some o => rw [out f o e] at hf0; cases hf0
              have fw : f ≠ w := ne_free W1 hf0
              have e5 : O.lst ((past ++ [(q, tput T m (edited x a b new))]).map fun x => W.ref x.1) = refsT (past ++ [(q, tput T m (edited x a b new))]) := rfl
              rw [e5]
              have W4 : up (up G2 P (refsT (past ++ [(q, tput T m (edited x a b new))]))) f (.lst []) w = some (.dct (knD P F)) := by rw [up_ne fw.symm]; exact K4.hw
              have e2 : putD (knD P F) (.str [102, 117, 116, 117, 114, 101]) (.ref f) = knD P f := rfl
              simp only [W4, e2]
              refine ⟨by show 2 < SZ; decide, ?_⟩
              rw [Int.toNat_natCast, Int.toNat_natCast] at k4
              refine k4 ⟨h1, h2, h3⟩ _ f q ⟨up_same, ?_, ?_, fP.symm, fun y hy => ?_⟩ hf1 hq fun z o z1 z2 z3 e => ?_
              · rw [up_ne K.wP.symm, up_ne fP.symm, up_same]
              · rw [up_ne fw, up_same]; rfl
              · rcases hy with hy | hy
                · have h5 := K4.at_ y (.inl hy)
                  have n1 := K4.nw (.inl hy)
                  rw [up_ne n1.1, up_ne (ne_free' h5 hf)]
                  exact h5
                · cases hy
              · rw [up_ne z1, up_ne (ne_free' (out z o e) hf0), up_ne z2]
                exact out z o e
            · rw [decide_eq_false h3]
              exact k3 (fun z => h3 z.2.2) _ l1
          · rw [decide_eq_false h2]
            exact k3 (fun z => h2 z.2.1) _ l1
        · rw [decide_eq_false h1]
          exact k3 (fun z => h1 z.1) _ l1
  · exact h.elim

/-! ### k29: how steps lead back; the state of the law -/
def Back (n : Nat) : TM → List Stp → List TM → Prop
  | _, [], ts => ts = []
  | T, s :: ss, ts => ∃ x r, ts = tput T s.m (newX s x) :: r ∧ tget T s.m = some x ∧ fitsE x s.a s.b s.new ∧ (newX s x).length ≤ n ∧ Back n (tput T s.m (newX s x)) ss r
theorem Back.mono {n m : Nat} (h : n ≤ m) : ∀ {ss : List Stp} {T : TM} {ts : List TM}, Back n T ss ts → Back m T ss ts
  | [], _, _, b => b
  | s :: ss, T, ts, ⟨x, r, a, b, c, d, e⟩ => ⟨x, r, a, b, c, Nat.le_trans d h, Back.mono h e⟩
theorem inv_fit {s : Stp} {x : List Nat} (ox : OkT x) (lx : x.length ≤ 4000) (h : fitsE x s.a s.b s.new) : fitsE (newX s x) (invS s x).a (invS s x).b (invS s x).new ∧ newX (invS s x) (newX s x) = x := by
  obtain ⟨m, a, b, new⟩ := s
  obtain ⟨h1, h2, h3, h4, h5⟩ := h
  dsimp only at h1 h2 h3 h4 h5
  obtain ⟨a, rfl⟩ := Int.eq_ofNat_of_zero_le h1
  obtain ⟨b, rfl⟩ := Int.eq_ofNat_of_zero_le (Int.le_trans h1 h2)
  have hab : a ≤ b := by omega
  have hb : b ≤ x.length := by omega
  have e1 := undo_edit (new := new) hab hb
  have el := ed_len (new := new) hab hb
  simp only [newX, invS, Int.toNat_natCast] at h5 ⊢
  have e2 : ((a : Int) + (new.length : Int)).toNat = a + new.length := by omega
  rw [e2, e1]
  refine ⟨⟨by omega, by omega, by omega, ?_, by rw [Int.toNat_natCast, e2, e1]; exact lx⟩, rfl⟩
  exact List.all_eq_true.mpr fun c hc => ox c (List.mem_of_mem_drop (List.mem_of_mem_take hc))
theorem Back.inv {n : Nat} {T : TM} {s : Stp} {x : List Nat} {ds : List Stp} {pts : List TM} (hn : (T.map (·.1)).Nodup) (em : tget T s.m = some x) (hf : fitsE x s.a s.b s.new) (ox : OkT x) (lx : x.length ≤ n) (l4 : n ≤ 4000) (B : Back n T ds pts) :
    Back n (tput T s.m (newX s x)) (invS s x :: ds) (T :: pts) := by
  obtain ⟨f1, f2⟩ := inv_fit ox (by omega) hf
  have e1 : tput (tput T s.m (newX s x)) (invS s x).m (newX (invS s x) (newX s x)) = T := by rw [f2]; exact tput_back hn em
  exact ⟨newX s x, pts, by rw [e1], tput_get em, f1, by rw [f2]; exact lx, by rw [e1]; exact B⟩
theorem fits_len {s : Stp} {x : List Nat} (h : fitsE x s.a s.b s.new) : s.new.length ≤ 4000 := by
  obtain ⟨h1, h2, h3, _, h5⟩ := h
  have := ed_len (t := x) (new := s.new) (a := s.a.toNat) (b := s.b.toNat) (by omega) (by omega)
  omega
theorem mname_ok : ∀ i, i < 5 → okS (mname i) ∧ weqL (toksL (mname i)) [nameTok (mname i)] = true := by
  have h : ∀ i, i < 5 → (mname i).all (fun c => decide (c < 1114112)) = true ∧ (mname i).length ≤ 10 ∧ weqL (toksL (mname i)) [nameTok (mname i)] = true := by decide +kernel
  intro i hi
  obtain ⟨a, b, c⟩ := h i hi
  refine ⟨⟨by omega, fun y hy => of_decide_eq_true (List.all_eq_true.mp a y hy)⟩, c⟩
theorem mname_name {i : Nat} (h : i < 5) : nameOk (mname i) := ⟨(mname_ok i h).1, _, toksL_ok _, (mname_ok i h).2⟩
theorem mname_nodup : ∀ n, n ≤ 5 → ((List.range n).map mname).Nodup := by decide +kernel
theorem mname_new : ∀ n, n < 5 → mname n ∉ (List.range n).map mname := by decide +kernel
structure LInv (CS CK f t c v w i : Nat) (G : Gh) (S : SS) (α : Rs → Nat) (P F : Nat) (past fut past0 : List (Nat × TM)) (r : Nat) (T : TM) : Prop where
  tp : Tape G t c
  av : α .sv = v
  K : Ksv CS CK f G S α
  H : Hk G w P F past fut
  ep : past = past0 ++ [(r, T)]
  eT : S.texts = toD T
  nm : T.map (·.1) = (List.range T.length).map mname
  l2 : T.length ≤ 5
  tx : ∀ p ∈ T, OkT p.2 ∧ p.2.length ≤ 20 + 45 * i
  bd : Back (20 + 45 * i) T (S.done.reverse.map (·.2)) (past0.reverse.map (·.2))
  bu : Back (20 + 45 * i) T (S.undone.reverse.map (·.2)) (fut.reverse.map (·.2))
  li : S.inp.length ≤ 20 + 2 * i
  ld : S.done.length + S.undone.length ≤ i
  lp : past.length + fut.length ≤ i + 1
  s1 : ∀ r, α r ≠ t ∧ α r ≠ c ∧ α r ≠ w ∧ α r ≠ P ∧ α r ≠ F
  s2 : ∀ x, x ∈ past ∨ x ∈ fut → ∀ r, α r ≠ x.1
  s3 : (t ≠ w ∧ t ≠ P ∧ t ≠ F) ∧ (c ≠ w ∧ c ≠ P ∧ c ≠ F)
theorem Tape.nT {G : Gh} {t c a : Nat} {T : TM} (tp : Tape G t c) (h : G a = some (.dct (toD T))) : a ≠ t ∧ a ≠ c := by
  obtain ⟨cells, at', left, seed, salt, e1, e2, _⟩ := tp.ex
  refine ⟨fun e => ?_, fun e => ?_⟩
  · rw [e, e1] at h
    injection h with h; injection h with h
    cases T with
    | nil => cases h
    | cons p T =>
      simp only [toD, tapeD, List.map_cons, List.cons.injEq, Prod.mk.injEq] at h
      exact nomatch h.1.2
  · rw [e, e2] at h; cases h
section
variable {CS CK f t c v w i : Nat} {G : Gh} {S : SS} {α : Rs → Nat} {P F : Nat} {past fut past0 : List (Nat × TM)} {r : Nat} {T : TM}
theorem LInv.nd (I : LInv CS CK f t c v w i G S α P F past fut past0 r T) : (T.map (·.1)).Nodup := by rw [I.nm]; exact mname_nodup _ I.l2
/-- what the law writes is not the server's -/
theorem Ksv.law {G' : Gh} (K : Ksv CS CK f G S α) (tp : Tape G t c) (H : Hk G w P F past fut) (s1 : ∀ r, α r ≠ t ∧ α r ≠ c ∧ α r ≠ w ∧ α r ≠ P ∧ α r ≠ F) (hs : ∀ b o, b ≠ t → b ≠ w → b ≠ P → b ≠ F → G b = some o → G' b = some o) : Ksv CS CK f G' S α := by
  refine ⟨K.inj, fun r => hs _ _ (s1 r).1 (s1 r).2.2.1 (s1 r).2.2.2.1 (s1 r).2.2.2.2 (K.at_ r), K.io, fun x hx => ?_⟩
  obtain ⟨a, b⟩ := K.st x hx
  refine ⟨hs _ _ ?_ ?_ ?_ ?_ a, b⟩
  · rintro e
    obtain ⟨cells, at', left, seed, salt, e1, _⟩ := tp.ex
    rw [e, e1] at a; cases a
  · rintro e; rw [e, H.hw] at a; cases a
  · rintro e; rw [e, H.hP] at a
    cases past with
    | nil => cases a
    | cons y l => injection a with a; injection a with a; cases a
  · rintro e; rw [e, H.hF] at a
    cases fut with
    | nil => cases a
    | cons y l => injection a with a; injection a with a; cases a
theorem LInv.up_t (I : LInv CS CK f t c v w i G S α P F past fut past0 r T) {o : O} (tp : Tape (up G t o) t c) : LInv CS CK f t c v w i (up G t o) S α P F past fut past0 r T := by
  have out : ∀ b u, b ≠ t → G b = some u → up G t o b = some u := fun b u h e => (up_ne h).trans e
  refine ⟨tp, I.av, I.K.law I.tp I.H I.s1 fun b u h _ _ _ e => out b u h e, ⟨out _ _ I.s3.1.1.symm I.H.hw, out _ _ I.s3.1.2.1.symm I.H.hP, out _ _ I.s3.1.2.2.symm I.H.hF, I.H.PF, fun x hx => out _ _ (I.tp.nT (I.H.at_ x hx)).1 (I.H.at_ x hx)⟩, I.ep, I.eT, I.nm, I.l2, I.tx, I.bd, I.bu, I.li, I.ld, I.lp, I.s1, I.s2, I.s3⟩
/-- what the server does leaves the law's things -/
theorem LInv.frs (I : LInv CS CK f t c v w i G S α P F past fut past0 r T) {G' : Gh} {α' : Rs → Nat} (h : Frs G α G' α') :
    Tape G' t c ∧ α' .sv = v ∧ Hk G' w P F past fut ∧ (∀ r, α' r ≠ t ∧ α' r ≠ c ∧ α' r ≠ w ∧ α' r ≠ P ∧ α' r ≠ F) ∧ ∀ x, x ∈ past ∨ x ∈ fut → ∀ r, α' r ≠ x.1 := by
  obtain ⟨ot, et⟩ := I.tp.hasT
  obtain ⟨oc, ec⟩ := I.tp.hasC
  have ht := h.2 t _ (fun r => (I.s1 r).1) et
  have hc := h.2 c _ (fun r => (I.s1 r).2.1) ec
  have hw := h.2 w _ (fun r => (I.s1 r).2.2.1) I.H.hw
  have hP := h.2 P _ (fun r => (I.s1 r).2.2.2.1) I.H.hP
  have hF := h.2 F _ (fun r => (I.s1 r).2.2.2.2) I.H.hF
  have hx := fun x hx => h.2 _ _ (I.s2 x hx) (I.H.at_ x hx)
  exact ⟨I.tp.of (ht.1.trans et.symm) (hc.1.trans ec.symm), h.1.trans I.av, ⟨hw.1, hP.1, hF.1, I.H.PF, fun x q => (hx x q).1⟩, fun r => ⟨ht.2 r, hc.2 r, hw.2 r, hP.2 r, hF.2 r⟩, fun x q => (hx x q).2⟩
end
theorem look_val {l : Mp} {k w : W} (h : look l k = some w) : ∃ p ∈ l, p.2 = w := by
  induction l with
  | nil => cases h
  | cons p l ih =>
    unfold look at h
    split at h
    · cases h; exact ⟨p, List.mem_cons_self, rfl⟩
    · obtain ⟨q, a, b⟩ := ih h
      exact ⟨q, List.mem_cons_of_mem _ a, b⟩
theorem txOk {T : TM} (h : ∀ p ∈ T, OkT p.2 ∧ p.2.length ≤ 4000) : TxOk (toD T) := by
  intro k w e
  obtain ⟨p, hp, rfl⟩ := look_val e
  obtain ⟨q, hq, rfl⟩ := List.mem_map.mp hp
  exact ⟨q.2, rfl, h q hq⟩
theorem tput_tx {T : TM} {m x y : List Nat} {n : Nat} (em : tget T m = some x) (h : ∀ p ∈ T, OkT p.2 ∧ p.2.length ≤ n) (hy : OkT y ∧ y.length ≤ n) : ∀ p ∈ tput T m y, OkT p.2 ∧ p.2.length ≤ n := by
  intro p hp
  unfold tput at hp
  rw [em, Option.isSome_some, if_pos rfl] at hp
  obtain ⟨q, hq, rfl⟩ := List.mem_map.mp hp
  split
  · exact hy
  · exact h q hq
theorem tput_length {T : TM} {m x y : List Nat} (em : tget T m = some x) : (tput T m y).length = T.length := by
  have := congrArg List.length (tput_keys (y := y) em)
  rw [List.length_map, List.length_map] at this
  exact this

/-! ### k29: a turn, and the law -/
theorem last_of {past past0 : List (Nat × TM)} {r : Nat} {T : TM} (h : past = past0 ++ [(r, T)]) : past.getLast? = some (r, T) := by rw [h]; simp
section
variable {CS CK f t c v w i : Nat} {G : Gh} {S : SS} {α : Rs → Nat} {P F : Nat} {past fut past0 : List (Nat × TM)} {r : Nat} {T : TM} {E : XQ}
theorem LInv.tick (I : LInv CS CK f t c v w i G S α P F past fut past0 r T) : LInv CS CK f t c v w (i + 1) G S α P F past fut past0 r T :=
  ⟨I.tp, I.av, I.K, I.H, I.ep, I.eT, I.nm, I.l2, fun p hp => ⟨(I.tx p hp).1, by have := (I.tx p hp).2; omega⟩, I.bd.mono (by omega), I.bu.mono (by omega), by have := I.li; omega, by have := I.ld; omega, by have := I.lp; omega, I.s1, I.s2, I.s3⟩
theorem LInv.lens (I : LInv CS CK f t c v w i G S α P F past fut past0 r T) (hi : i ≤ 13) : LenS S := by
  have h1 := I.li; have h2 := I.ld; have h3 := I.l2
  have h4 : S.texts.length = T.length := by rw [I.eT]; unfold toD; rw [List.length_map]
  exact ⟨by omega, by omega, by omega, by omega⟩
theorem LInv.le (I : LInv CS CK f t c v w i G S α P F past fut past0 r T) {G' : Gh} (l : Le G G') : LInv CS CK f t c v w i G' S α P F past fut past0 r T :=
  ⟨I.tp.le l, I.av, I.K.le l, I.H.le l, I.ep, I.eT, I.nm, I.l2, I.tx, I.bd, I.bu, I.li, I.ld, I.lp, I.s1, I.s2, I.s3⟩
theorem LInv.n4 (I : LInv CS CK f t c v w i G S α P F past fut past0 r T) (hi : i ≤ 13) : 20 + 45 * i ≤ 4000 := by omega
/-- a step is taken back or done again -/
theorem LInv.stp (I : LInv CS CK f t c v w i G S α P F past fut past0 r T) {s : Stp} {x : List Nat} {m : Nat} (hm : 20 + 45 * i ≤ m) (em : tget T s.m = some x) (hl : (newX s x).length ≤ m) (hf : fitsE x s.a s.b s.new) :
    (tput T s.m (newX s x)).map (·.1) = (List.range (tput T s.m (newX s x)).length).map mname ∧ (tput T s.m (newX s x)).length ≤ 5 ∧ (∀ p ∈ tput T s.m (newX s x), OkT p.2 ∧ p.2.length ≤ m) := by
  have ox := I.tx _ (tget_mem em)
  refine ⟨by rw [tput_keys em, tput_length em]; exact I.nm, by rw [tput_length em]; exact I.l2, tput_tx em (fun p hp => ⟨(I.tx p hp).1, by have := (I.tx p hp).2; omega⟩) ⟨ox.1.edit (okT_of_all hf.2.2.2.1), hl⟩⟩
theorem LInv.sto (I : LInv CS CK f t c v w i G S α P F past fut past0 r T) (hi : i ≤ 13) {s : Stp} {x : List Nat} (em : tget T s.m = some x) (hf : fitsE x s.a s.b s.new) : StO S.texts s x := by
  have ox := I.tx _ (tget_mem em)
  exact ⟨by rw [I.eT, look_toD, em]; rfl, hf, by have h1 : x.length ≤ 20 + 45 * i := ox.2; have := I.n4 hi; omega, ox.1, fits_len hf⟩
theorem step_all (I : LInv CS CK f t c v w i G S α P F past fut past0 r T) (hi : i ≤ 13) {K : W → W → Gh → Prop}
    (fin : ∀ l G' S' α' P' F' past' fut' past0' r' T', LInv CS CK f t c v w (i + 1) G' S' α' P' F' past' fut' past0' r' T' → K (.str l) (.str l) G') (a : Act) (ok : ActOk T a) :
    DoP CS CK f S α G (fun W1 G2 => sp_exp [.ref w, actW a] G2 (fun W2 G3 => K W1 W2 G3) E) a := by
  have lp := I.lp
  have ld := I.ld
  have l5 := I.l2
  cases a with
  | undo =>
    refine ⟨I.lens hi, fun e => ?_, fun d q s e => ?_⟩
    · refine ⟨P, F, past, fut, r, T, .undo, rfl, I.H, last_of I.ep, by omega, by omega, by omega, fun _ => fin _ _ _ _ _ _ _ _ _ _ _ I.tick, fun p x e2 n => ?_⟩
      have b := I.bd
      rw [e] at b
      have b2 : past0.reverse.map (·.2) = [] := b
      have b3 : past0 = [] := by simpa using b2
      have := I.ep
      rw [b3, e2] at this
      exact absurd (List.append_inj' this rfl).1 n
    · have b := I.bd
      rw [e, List.reverse_append, List.reverse_singleton, List.singleton_append, List.map_cons] at b
      obtain ⟨x, rr, e1, em, hf, hl, b2⟩ := b
      refine ⟨x, I.sto hi em hf, fun G' inp rev q' K' Fr' li' => ?_⟩
      obtain ⟨tp', av', H', s1', s2'⟩ := I.frs Fr'
      have l0 : past0.reverse ≠ [] := by intro z; rw [z] at e1; cases e1
      refine ⟨P, F, past, fut, r, T, .undo, rfl, H', last_of I.ep, by omega, by omega, by omega, fun z => ?_, fun p y e2 n G3 H3 hs => ?_⟩
      · exfalso
        rw [I.ep, List.length_append] at z
        have : past0.length = 0 := by simpa using z
        exact l0 (by rw [List.eq_nil_of_length_eq_zero this]; rfl)
      · have e3 := I.ep
        rw [e2] at e3
        obtain ⟨rfl, e4⟩ := List.append_inj' e3 rfl
        have e5 : y = (r, T) := by simpa using e4
        subst e5
        obtain ⟨p1, ⟨r1, T1⟩, rfl⟩ := (List.eq_nil_or_concat p).resolve_left n
        rw [List.concat_eq_append] at *
        rw [List.reverse_append, List.reverse_singleton, List.singleton_append, List.map_cons, List.cons.injEq] at e1
        obtain ⟨e6, e7⟩ := e1
        dsimp only at e6
        obtain ⟨g1, g2, g3⟩ := I.stp (m := 20 + 45 * (i + 1)) (by omega) em (by omega) hf
        have ox := I.tx _ (tget_mem em)
        have bu := Back.inv (n := 20 + 45 * i) I.nd em hf ox.1 ox.2 (I.n4 hi) I.bu
        have tp3 : Tape G3 t c := tp'.of ((hs _ _ I.s3.1.1 I.s3.1.2.1 I.s3.1.2.2 tp'.hasT.choose_spec).trans tp'.hasT.choose_spec.symm) ((hs _ _ I.s3.2.1 I.s3.2.2.1 I.s3.2.2.2 tp'.hasC.choose_spec).trans tp'.hasC.choose_spec.symm)
        have pl : (p1 ++ [(r1, T1)] ++ [(r, T)]).length + fut.length ≤ i + 1 := by rw [← e2]; exact lp
        simp only [List.length_append, List.length_cons, List.length_nil] at pl
        subst e6
        refine fin _ G3 _ α P F (p1 ++ [(r1, tput T s.m (newX s x))]) (fut ++ [(r, T)]) p1 r1 _ ⟨tp3, av', K'.law tp' H' s1' fun b o _ b2 b3 b4 z => hs b o b2 b3 b4 z, H3, rfl, ?_, g1, g2, g3, ?_, ?_, ?_, ?_, ?_, s1', fun x hx => ?_, I.s3⟩
        · show putD S.texts _ _ = _
          rw [I.eT, putD_toD]
        · show Back _ _ (d.reverse.map _) (p1.reverse.map _)
          rw [e7]; exact b2.mono (by omega)
        · show Back _ _ ((S.undone ++ [(q', invS s x)]).reverse.map _) ((fut ++ [(r, T)]).reverse.map _)
          rw [List.reverse_append, List.reverse_append]
          exact bu.mono (by omega)
        · show inp.length ≤ _
          have := I.li; omega
        · show d.length + (S.undone ++ [(q', invS s x)]).length ≤ _
          rw [e] at ld
          simp only [List.length_append, List.length_cons, List.length_nil] at ld ⊢
          omega
        · simp only [List.length_append, List.length_cons, List.length_nil]
          omega
        · refine s2' x ?_
          rw [e2]
          rcases hx with hx | hx
          · exact .inl (List.mem_append_left _ hx)
          · rcases List.mem_append.mp hx with hx | hx
            · exact .inr hx
            · exact .inl (List.mem_append_right _ hx)
  | redo =>
    refine ⟨I.lens hi, fun e => ?_, fun d q s e => ?_⟩
    · refine ⟨P, F, past, fut, r, T, .redo, rfl, I.H, last_of I.ep, by omega, by omega, by omega, fun _ G' l => fin _ _ _ _ _ _ _ _ _ _ _ (I.le l).tick, fun p x e2 => ?_⟩
      have b := I.bu
      rw [e] at b
      have b2 : fut.reverse.map (·.2) = [] := b
      have b3 : fut = [] := by simpa using b2
      rw [b3] at e2
      exact absurd e2 (by simp)
    · have b := I.bu
      rw [e, List.reverse_append, List.reverse_singleton, List.singleton_append, List.map_cons] at b
      obtain ⟨x, rr, e1, em, hf, hl, b2⟩ := b
      refine ⟨x, I.sto hi em hf, fun G' inp rev q' K' Fr' li' => ?_⟩
      obtain ⟨tp', av', H', s1', s2'⟩ := I.frs Fr'
      refine ⟨P, F, past, fut, r, T, .redo, rfl, H', last_of I.ep, by omega, by omega, by omega, fun z => ?_, fun p y e2 G3 H3 hs => ?_⟩
      · exfalso
        rw [z] at e1
        cases e1
      · obtain ⟨r1, T1⟩ := y
        rw [e2, List.reverse_append, List.reverse_singleton, List.singleton_append, List.map_cons, List.cons.injEq] at e1
        obtain ⟨e6, e7⟩ := e1
        dsimp only at e6
        obtain ⟨g1, g2, g3⟩ := I.stp (m := 20 + 45 * (i + 1)) (by omega) em (by omega) hf
        have ox := I.tx _ (tget_mem em)
        have bd := Back.inv (n := 20 + 45 * i) I.nd em hf ox.1 ox.2 (I.n4 hi) I.bd
        have tp3 : Tape G3 t c := tp'.of ((hs _ _ I.s3.1.1 I.s3.1.2.1 I.s3.1.2.2 tp'.hasT.choose_spec).trans tp'.hasT.choose_spec.symm) ((hs _ _ I.s3.2.1 I.s3.2.2.1 I.s3.2.2.2 tp'.hasC.choose_spec).trans tp'.hasC.choose_spec.symm)
        have pl : past.length + (p ++ [(r1, T1)]).length ≤ i + 1 := by rw [← e2]; exact lp
        simp only [List.length_append, List.length_cons, List.length_nil] at pl
        subst e6
        refine fin _ G3 _ α P F (past ++ [(r1, tput T s.m (newX s x))]) p past r1 _ ⟨tp3, av', K'.law tp' H' s1' fun b o _ b2 b3 b4 z => hs b o b2 b3 b4 z, H3, rfl, ?_, g1, g2, g3, ?_, ?_, ?_, ?_, ?_, s1', fun x hx => ?_, I.s3⟩
        · show putD S.texts _ _ = _
          rw [I.eT, putD_toD]
        · show Back _ _ ((S.done ++ [(q', invS s x)]).reverse.map _) (past.reverse.map _)
          rw [I.ep, List.reverse_append, List.reverse_append]
          exact bd.mono (by omega)
        · show Back _ _ (d.reverse.map _) (p.reverse.map _)
          rw [e7]; exact b2.mono (by omega)
        · show inp.length ≤ _
          have := I.li; omega
        · show (S.done ++ [(q', invS s x)]).length + d.length ≤ _
          rw [e] at ld
          simp only [List.length_append, List.length_cons, List.length_nil] at ld ⊢
          omega
        · simp only [List.length_append, List.length_cons, List.length_nil]
          omega
        · refine s2' x ?_
          rw [e2]
          rcases hx with hx | hx
          · rcases List.mem_append.mp hx with hx | hx
            · exact .inl hx
            · exact .inr (List.mem_append_right _ hx)
          · exact .inr (List.mem_append_left _ hx)
  | opn m =>
    obtain ⟨h5, rfl⟩ := ok
    have hn : ∀ p ∈ T, nameOk p.1 := fun p hp => by
      have : p.1 ∈ T.map (·.1) := List.mem_map_of_mem hp
      rw [I.nm] at this
      obtain ⟨j, hj, e⟩ := List.mem_map.mp this
      have := List.mem_range.mp hj
      rw [← e]; exact mname_name (by omega)
    have em : tget T (mname T.length) = none := by
      cases e : tget T (mname T.length) with
      | none => rfl
      | some x =>
        have : mname T.length ∈ T.map (·.1) := List.mem_map_of_mem (f := (·.1)) (tget_mem e)
        rw [I.nm] at this
        exact absurd this (mname_new _ h5)
    refine ⟨T, I.eT, em, mname_name h5, by omega, by have := I.li; omega, hn, fun G' inp rev α' K' Fr' li' => ?_⟩
    obtain ⟨tp', av', H', s1', s2'⟩ := I.frs Fr'
    refine ⟨P, F, past, fut, r, T, .opn _, rfl, H', last_of I.ep, by omega, by omega, by omega, fun G3 P3 F3 q H3 np nf nq hs => ?_⟩
    have fr : ∀ z, G' z = none → (t ≠ z ∧ c ≠ z) ∧ ∀ r, α' r ≠ z := fun z hz => ⟨⟨(tp'.free hz).1.symm, (tp'.free hz).2.symm⟩, fun r => K'.free hz r⟩
    have tp3 : Tape G3 t c := tp'.of ((hs _ _ I.s3.1.1 I.s3.1.2.1 I.s3.1.2.2 tp'.hasT.choose_spec).trans tp'.hasT.choose_spec.symm) ((hs _ _ I.s3.2.1 I.s3.2.2.1 I.s3.2.2.2 tp'.hasC.choose_spec).trans tp'.hasC.choose_spec.symm)
    rw [tput_new em] at K' H3
    refine fin _ G3 _ α' P3 F3 [(q, T ++ [(mname T.length, [])])] [] [] q (T ++ [(mname T.length, [])]) ⟨tp3, av', K'.law tp' H' s1' fun b o _ b2 b3 b4 z => hs b o b2 b3 b4 z, H3, rfl, rfl, ?_, ?_, fun p hp => ?_, rfl, rfl, ?_, Nat.zero_le _, ?_, fun r => ⟨(s1' r).1, (s1' r).2.1, (s1' r).2.2.1, (fr _ np).2 r, (fr _ nf).2 r⟩, fun x hx => ?_, ⟨I.s3.1.1, (fr _ np).1.1, (fr _ nf).1.1⟩, I.s3.2.1, (fr _ np).1.2, (fr _ nf).1.2⟩
    · rw [List.map_append, I.nm, List.length_append, List.length_singleton, List.range_succ, List.map_append]; rfl
    · rw [List.length_append, List.length_singleton]; omega
    · rcases List.mem_append.mp hp with hp | hp
      · exact ⟨(I.tx p hp).1, by have := (I.tx p hp).2; omega⟩
      · rw [List.mem_singleton.mp hp]; exact ⟨fun _ z => (nomatch z), by simp⟩
    · show inp.length ≤ _
      have := I.li; omega
    · show 1 + 0 ≤ _
      omega
    · rcases hx with hx | hx
      · rw [List.mem_singleton.mp hx]; exact (fr _ nq).2
      · cases hx
  | edit m a b new =>
    obtain ⟨on, ln, hm⟩ := ok
    have bnd : ∀ x, look S.texts (.str m) = some (.str x) → tget T m = some x := fun x e => by
      rw [I.eT, look_toD] at e
      cases e2 : tget T m with
      | none => rw [e2] at e; cases e
      | some z => rw [e2] at e; cases e; rfl
    have n4 := I.n4 hi
    have txo : TxOk S.texts := by rw [I.eT]; exact txOk fun p hp => ⟨(I.tx p hp).1, by have := (I.tx p hp).2; omega⟩
    have fit : ∀ x, tget T m = some x → (0 ≤ a ∧ a ≤ b ∧ b ≤ x.length) → fitsE x a b new ∧ (edited x a.toNat b.toNat new).length ≤ 20 + 45 * (i + 1) := fun x e ⟨h1, h2, h3⟩ => by
      have ox := I.tx _ (tget_mem e)
      have ox2 : x.length ≤ 20 + 45 * i := ox.2
      have := ed_len (t := x) (new := new) (a := a.toNat) (b := b.toNat) (by omega) (by omega)
      exact ⟨⟨h1, h2, h3, okT_alls on, by omega⟩, by omega⟩
    refine ⟨I.lens hi, by omega, txo, fun e => ?_, fun x e nf => ?_, fun x e hf G' inp rev α' q K' Fr' li' => ?_⟩
    · rw [I.eT, has_toD] at e
      have em : tget T m = none := by cases z : tget T m with
        | none => rfl
        | some x => rw [z] at e; cases e
      exact ⟨P, F, past, fut, r, T, .edit m a b new, rfl, I.H, last_of I.ep, by omega, by omega, by omega, fun _ G' l => fin _ _ _ _ _ _ _ _ _ _ _ (I.le l).tick, fun x z => by rw [em] at z; cases z⟩
    · have em := bnd x e
      refine ⟨P, F, past, fut, r, T, .edit m a b new, rfl, I.H, last_of I.ep, by omega, by omega, by omega, ?_⟩
      refine ⟨fun z => (by rw [em] at z; cases z), fun y z => ?_⟩
      rw [em] at z
      cases z
      have lx : x.length ≤ 20 + 45 * i := (I.tx _ (tget_mem em)).2
      exact ⟨by omega, by omega, fun _ G' l => fin _ _ _ _ _ _ _ _ _ _ _ (I.le l).tick, fun z => absurd (fit x em z).1 nf⟩
    · have em := bnd x e
      obtain ⟨tp', av', H', s1', s2'⟩ := I.frs Fr'
      refine ⟨P, F, past, fut, r, T, .edit m a b new, rfl, H', last_of I.ep, by omega, by omega, by omega, ?_⟩
      refine ⟨fun z => (by rw [em] at z; cases z), fun y z => ?_⟩
      rw [em] at z
      cases z
      have lx : x.length ≤ 20 + 45 * i := (I.tx _ (tget_mem em)).2
      refine ⟨by omega, by omega, fun z => absurd ⟨hf.1, hf.2.1, hf.2.2.1⟩ z, fun z G3 F3 q3 H3 nf nq hs => ?_⟩
      have fr : ∀ z, G' z = none → (t ≠ z ∧ c ≠ z) ∧ ∀ r, α' r ≠ z := fun z hz => ⟨⟨(tp'.free hz).1.symm, (tp'.free hz).2.symm⟩, fun r => K'.free hz r⟩
      have tp3 : Tape G3 t c := tp'.of ((hs _ _ I.s3.1.1 I.s3.1.2.1 I.s3.1.2.2 tp'.hasT.choose_spec).trans tp'.hasT.choose_spec.symm) ((hs _ _ I.s3.2.1 I.s3.2.2.1 I.s3.2.2.2 tp'.hasC.choose_spec).trans tp'.hasC.choose_spec.symm)
      have ln2 := (fit x em z).2
      obtain ⟨g1, g2, g3⟩ := I.stp (s := ⟨m, a, b, new⟩) (m := 20 + 45 * (i + 1)) (by omega) em ln2 hf
      have bd := Back.inv (s := ⟨m, a, b, new⟩) (n := 20 + 45 * i) I.nd em hf (I.tx _ (tget_mem em)).1 lx n4 I.bd
      refine fin _ G3 _ α' P F3 (past ++ [(q3, tput T m (newX ⟨m, a, b, new⟩ x))]) [] past q3 _ ⟨tp3, av', K'.law tp' H' s1' fun b o _ b2 b3 b4 z => hs b o b2 b3 b4 z, H3, rfl, ?_, g1, g2, g3, ?_, rfl, ?_, ?_, ?_, fun r => ⟨(s1' r).1, (s1' r).2.1, (s1' r).2.2.1, (s1' r).2.2.2.1, (fr _ nf).2 r⟩, fun y hy => ?_, ⟨I.s3.1.1, I.s3.1.2.1, (fr _ nf).1.1⟩, I.s3.2.1, I.s3.2.2.1, (fr _ nf).1.2⟩
      · show putD S.texts _ _ = _
        rw [I.eT, putD_toD]
      · show Back _ _ ((S.done ++ [(q, invS ⟨m, a, b, new⟩ x)]).reverse.map _) (past.reverse.map _)
        rw [I.ep, List.reverse_append, List.reverse_append]
        exact bd.mono (by omega)
      · show inp.length ≤ _
        have := I.li; omega
      · show (S.done ++ [(q, invS ⟨m, a, b, new⟩ x)]).length + 0 ≤ _
        rw [List.length_append, List.length_singleton]
        omega
      · rw [List.length_append, List.length_singleton]
        show _ + 1 + 0 ≤ _
        omega
      · rcases hy with hy | hy
        · rcases List.mem_append.mp hy with hy | hy
          · exact s2' y (.inl hy)
          · rw [List.mem_singleton.mp hy]; exact (fr _ nq).2
        · cases hy
end
/-! the law -/
def tx0 : TM := [([109, 48], [100, 101, 102, 32, 102, 40, 41, 32, 61, 32, 49, 10]), ([109, 49], [100, 97, 116, 97, 32, 68, 40, 120, 58, 32, 73, 110, 116, 41, 10])]
theorem tx0_ok : okM (toD tx0) := by
  have h : ∀ p ∈ tx0, p.2.length ≤ 4000 ∧ p.2.all chb = true := by decide
  intro x hx
  obtain ⟨p, hp, rfl⟩ := List.mem_map.mp hx
  refine ⟨p.1, p.2, rfl, ?_, (h p hp).1, okT_all (h p hp).2⟩
  have : p.1 = mname 0 ∨ p.1 = mname 1 := by
    have h2 : ∀ p ∈ tx0, p.1 = mname 0 ∨ p.1 = mname 1 := by decide +kernel
    exact h2 p hp
  rcases this with e | e <;> rw [e] <;> exact mname_name (by omega)
theorem same_prog {G : Gh} {p q : Nat} {T : TM} (h1 : G p = some (.dct (toD T))) (h2 : G q = some (.dct (toD T))) (n : p ≠ q) (hd : (T.map (·.1)).Nodup) : SameW G 1 (.ref p) (.ref q) := by
  refine .inr (.inl ⟨p, q, _, _, rfl, rfl, n, h1, h2, rfl, fun e he => ?_, fun e he => ?_⟩)
  · obtain ⟨x, hx, rfl⟩ := List.mem_map.mp he
    have := tget_nodup hd (show (x.1, x.2) ∈ T from hx)
    exact ⟨rfl, .str x.2, by rw [look_toD, this]; rfl, by rw [look_toD, this]; rfl, rfl⟩
  · obtain ⟨x, hx, rfl⟩ := List.mem_map.mp he
    rfl
theorem vc_law (CS CK f : Nat) (ws : List W) (G : Gh) (Q : QV) (E : XQ) (fg : Fgt Q E) (h : sp_law ws G Q E) :
    rd_law CS sp_tape (sp_sinit CS CK f) sp_take sp_act (sp_do CS CK f) sp_exp (sp_same 1) (sp_prog CS CK f) { nx := fun _ G' => Q .non G', rt := Q, ex := fun _ => E } (startF 7 ws) G := by
  unfold sp_law at h
  split at h
  · rename_i x
    obtain ⟨ns, hs, k⟩ := h
    unfold rd_law
    refine sSeq_i (sSet_i ?_)
    simp only [eCall, eVar, aCons, aNil, startF, List.map_cons, List.map_nil, List.cons_append, List.nil_append, List.length_cons, List.length_nil, List.replicate, get_zero, get_succ, put_zero, put_succ]
    refine ⟨ns, hs, fun G1 t c l1 f1 T1 => ?_⟩
    refine sSeq_i (sSet_i ?_)
    simp only [eDict, pairsD, eC, put_zero, put_succ, get_zero, get_succ]
    intro d hd
    refine ⟨up_same, rfl, by decide, ?_⟩
    have e0 : mergeD [] [(W.str [109, 48], W.str [100, 101, 102, 32, 102, 40, 41, 32, 61, 32, 49, 10]), (W.str [109, 49], W.str [100, 97, 116, 97, 32, 68, 40, 120, 58, 32, 73, 110, 116, 41, 10])] = toD tx0 := rfl
    rw [e0, up_up]
    have hd1 : up G1 d (.dct (toD tx0)) d = some (.dct (toD tx0)) := up_same
    have T2 := T1.new (o := .dct (toD tx0)) hd
    generalize up G1 d (.dct (toD tx0)) = G2 at hd1 T2 ⊢
    refine sSeq_i (sSet_i ?_)
    simp only [eMakeX, aCons, aNil, eVar, get_zero, get_succ, put_zero, put_succ]
    intro v hv
    have dv := ne_free' hd1 hv
    refine ⟨tx0, up_same, by rw [up_ne dv]; exact hd1, tx0_ok, by decide, by decide, fun G3 S α av K3 eT ed eu li out => ⟨rfl, ?_⟩⟩
    have out2 : ∀ b o, G2 b = some o → G3 b = some o ∧ ∀ r, α r ≠ b := fun b o e => out b o (ne_free' e hv) (by rw [up_ne (ne_free' e hv)]; exact e)
    obtain ⟨ot, et⟩ := T2.hasT
    obtain ⟨oc, ec⟩ := T2.hasC
    have T3 : Tape G3 t c := T2.of ((out2 _ _ et).1.trans et.symm) ((out2 _ _ ec).1.trans ec.symm)
    have hd3 := out2 _ _ hd1
    refine sSeq_i (sSet_i ?_)
    simp only [eDict, pairsD, eC, eLst, aCons, aNil, eBlt, eVar, bDict, put_zero, put_succ, get_zero, get_succ]
    intro w hw
    have K4 := K3.le (Le.up (o := .dct []) hw)
    have T4 := T3.new (o := .dct []) hw
    have wd := ne_free' hd3.1 hw
    have hd4 : up G3 w (.dct []) d = some (.dct (toD tx0)) := by rw [up_ne wd]; exact hd3.1
    have nw := fun r => K3.free hw r
    have tw := T3.free hw
    have hw4 : up G3 w (.dct []) w = some (.dct []) := up_same
    generalize up G3 w (.dct []) = G4 at K4 T4 hd4 hw4 ⊢
    simp only [hd4]
    intro q hq
    have K5 := K4.le (Le.up (o := .dct (toD tx0)) hq)
    have T5 := T4.new (o := .dct (toD tx0)) hq
    have nq := fun r => K4.free hq r
    have tq := T4.free hq
    have hw5 : up G4 q (.dct (toD tx0)) w = some (.dct []) := Le.up hq _ _ hw4
    have hq5 : up G4 q (.dct (toD tx0)) q = some (.dct (toD tx0)) := up_same
    generalize up G4 q (.dct (toD tx0)) = G5 at K5 T5 hw5 hq5 ⊢
    refine ⟨by show 1 ≤ SZ; decide, fun P hP => ?_⟩
    have K6 := K5.le (Le.up (o := .lst [.ref q]) hP)
    have T6 := T5.new (o := .lst [.ref q]) hP
    have nP := fun r => K5.free hP r
    have tP := T5.free hP
    have hw6 : up G5 P (.lst [.ref q]) w = some (.dct []) := Le.up hP _ _ hw5
    have hq6 : up G5 P (.lst [.ref q]) q = some (.dct (toD tx0)) := Le.up hP _ _ hq5
    have hP6 : up G5 P (.lst [.ref q]) P = some (.lst [.ref q]) := up_same
    generalize up G5 P (.lst [.ref q]) = G6 at K6 T6 hw6 hq6 hP6 ⊢
    refine ⟨by decide, fun F hF => ?_⟩
    have K7 := K6.le (Le.up (o := .lst []) hF)
    have T7 := T6.new (o := .lst []) hF
    have nF := fun r => K6.free hF r
    have tF := T6.free hF
    have hw7 : up G6 F (.lst []) w = some (.dct []) := Le.up hF _ _ hw6
    have hq7 : up G6 F (.lst []) q = some (.dct (toD tx0)) := Le.up hF _ _ hq6
    have hP7 : up G6 F (.lst []) P = some (.lst [.ref q]) := Le.up hF _ _ hP6
    have hF7 : up G6 F (.lst []) F = some (.lst []) := up_same
    have PF : P ≠ F := ne_free' hP6 hF
    have wF : w ≠ F := ne_free' hw6 hF
    generalize up G6 F (.lst []) = G7 at K7 T7 hw7 hq7 hP7 hF7 ⊢
    refine ⟨hw7, rfl, by show 2 ≤ 15; decide, ?_⟩
    have e1 : mergeD [] [(W.str [112, 97, 115, 116], W.ref P), (W.str [102, 117, 116, 117, 114, 101], W.ref F)] = knD P F := rfl
    rw [e1]
    have qw : q ≠ w := by rintro rfl; rw [hq7] at hw7; injection hw7 with z; injection z with z; cases z
    have Pw : P ≠ w := by rintro rfl; rw [hP7] at hw7; cases hw7
    have out8 : ∀ b o, b ≠ w → G7 b = some o → up G7 w (.dct (knD P F)) b = some o := fun b o h e => by rw [up_ne h]; exact e
    have I8 : LInv CS CK f t c v w 0 (up G7 w (.dct (knD P F))) S α P F [(q, tx0)] [] [] q tx0 := by
      refine ⟨T7.upd tw.1 tw.2, av, ⟨K7.inj, fun r => out8 _ _ (nw r) (K7.at_ r), K7.io, fun x hx => ?_⟩, ⟨up_same, out8 _ _ Pw hP7, out8 _ _ wF.symm hF7, PF, fun x hx => ?_⟩, rfl, eT, by decide +kernel, by decide, ?_, by rw [ed]; rfl, by rw [eu]; rfl, by omega, by rw [ed, eu]; decide, by show 1 + 0 ≤ 0 + 1; decide, fun r => ⟨(out2 _ _ et).2 r, (out2 _ _ ec).2 r, nw r, nP r, nF r⟩, fun x hx => ?_, ⟨tw.1.symm, tP.1.symm, tF.1.symm⟩, tw.2.symm, tP.2.symm, tF.2.symm⟩
      · rcases hx with hx | hx
        · rw [ed] at hx; cases hx
        · rw [eu] at hx; cases hx
      · rcases hx with hx | hx
        · rw [List.mem_singleton.mp hx]; exact out8 _ _ qw hq7
        · cases hx
      · have h2 : ∀ p ∈ tx0, p.2.all chb = true ∧ p.2.length ≤ 20 := by decide
        exact fun p hp => ⟨okT_all (h2 p hp).1, (h2 p hp).2⟩
      · rcases hx with hx | hx
        · rw [List.mem_singleton.mp hx]; exact nq
        · cases hx
    generalize up G7 w (.dct (knD P F)) = G8 at I8 ⊢
    refine sSeq_i ?_
    simp only [sFor, iRng1, aCons, aNil, eOp, eC, eCall, eVar, put_zero, put_succ, get_zero, get_succ]
    refine ⟨c, I8.tp, by decide, by decide, fun m o m0 m1 T9 => ?_⟩
    have I9 := I8.up_t T9
    simp only [rAdd]
    refine ⟨rngOk_small (by omega) (by omega), _, rfl, ?_⟩
    have hn : (1 + m).toNat ≤ 14 := by omega
    refine forR_ind (fun i γ G' => ∃ S α P F past fut past0 r T o5 o6, LInv CS CK f t c v w i G' S α P F past fut past0 r T ∧ γ = [some x, some (.ref t), some (.ref d), some (.ref v), some (.ref w), o5, o6]) (fun i γ G' _ _ => rfl) ?_ ?_ _ _ ⟨S, α, P, F, _, _, _, _, _, _, _, I9, rfl⟩
    · rintro γ G' ⟨S, α, P, F, past, fut, past0, r, T, o5, o6, I, rfl⟩
      exact k _
    · rintro i γ G' hi ⟨S, α, P, F, past, fut, past0, r, T, o5, o6, I, rfl⟩ Fn hF
      have hi' : i ≤ 13 := by omega
      simp only [gName, put_zero, put_succ]
      unfold rd_law_b0
      refine sSeq_i (sSet_i ?_)
      simp only [eCall, eVar, aCons, aNil, get_zero, get_succ, put_zero, put_succ]
      refine ⟨c, P, F, past, fut, r, T, I.tp, I.H, last_of I.ep, by have := I.l2; omega, fun p hp => by have := (I.tx p hp).2; omega, fun b hb => ?_, fun y hy => (I.tp.nT (I.H.at_ y (.inl hy))).1, fun a o ha Ta => ?_⟩
      · simp only [List.mem_cons, List.not_mem_nil, or_false] at hb
        rcases hb with rfl | rfl | rfl
        · exact I.s3.1.1.symm
        · exact I.s3.1.2.1.symm
        · exact I.s3.1.2.2.symm
      · have Ia := I.up_t Ta
        refine sSeq_i (sIf_i ?_)
        simp only [tV, eOp, eCall, eVar, aCons, aNil, get_zero, get_succ]
        refine ⟨S, α, a, Ia.av, rfl, Ia.K, ?_⟩
        refine step_all Ia hi' (fun l G3 S' α' P' F' past' fut' past0' r' T' I3 => ?_) a ha
        simp only [rNe, eqA, decide_true, Bool.not_true, Bool.false_eq_true, if_false, sNext]
        have hw3 := I3.H.hw
        have hP3 := I3.H.hP
        have eP : look (knD P' F') (.str [112, 97, 115, 116]) = some (.ref P') := rfl
        have lst : at_ (past'.map fun x => W.ref x.1) (-1) = some (.ref r') := by rw [I3.ep, List.map_append]; exact at_last _ _
        have hv3 : G3 v = some (.ins CS ns_Server [.ref (α' .tx), .ref (α' .kp), .ref (α' .dn), .ref (α' .un)]) := by rw [← I3.av]; exact I3.K.hv
        simp only [sIf, tNot, tTru, eCall, eMet, asIns, eVar, aCons, aNil, eOp, eC, eUn, rNeg, rDget, rAt, get_zero, get_succ, hv3, true_and]
        refine ⟨S', α', I3.av, I3.K, fun p hp => ?_⟩
        have I4 := I3.le (Le.up (o := .dct S'.texts) hp)
        have hw4 := I4.H.hw
        have hP4 := I4.H.hP
        simp only [hw4, hP4, eP, lst, key1_str, true_and]
        have hr := I3.H.at_ (r', T') (.inl (by rw [I3.ep]; simp))
        have pr := ne_free hr hp
        refine ⟨same_prog (T := T') (by rw [up_same, I3.eT]) (by rw [up_ne pr.symm]; exact hr) pr I3.nd, ?_⟩
        · simp only [truth, Bool.not_true, Bool.false_eq_true, if_false, sNext]
          exact hF _ _ ⟨S', α', P', F', past', fut', past0', r', T', _, _, I4, rfl⟩
  · exact h.elim

end L3.Lw
end
section
namespace L3.Lw
open PySem PySem.Spec PyProof.Rows L2 L3
theorem sc_law_tape : FnScope ["script", "cells", "seed", "cell"] ["script"] (defScope t_law_tape) := ⟨rfl, rfl, rfl, by decide +kernel, rfl, by decide +kernel, by decide +kernel⟩
theorem sc_law_take : FnScope ["tape", "many", "mixed", "drawn"] ["tape", "many"] (defScope t_law_take) := ⟨rfl, rfl, rfl, by decide +kernel, rfl, by decide +kernel, by decide +kernel⟩
theorem sc_law_is_integer : FnScope ["actual"] ["actual"] (defScope t_law_is_integer) := ⟨rfl, rfl, rfl, by decide +kernel, rfl, by decide +kernel, by decide +kernel⟩
theorem sc_law_same_items : FnScope ["actual", "expected", "k"] ["actual", "expected"] (defScope t_law_same_items) := ⟨rfl, rfl, rfl, by decide +kernel, rfl, by decide +kernel, by decide +kernel⟩
theorem sc_law_same : FnScope ["actual", "expected", "key"] ["actual", "expected"] (defScope t_law_same) := ⟨rfl, rfl, rfl, by decide +kernel, rfl, by decide +kernel, by decide +kernel⟩
theorem sc_law_snippet : FnScope ["tape", "pieces", "k"] ["tape"] (defScope t_law_snippet) := ⟨rfl, rfl, rfl, by decide +kernel, rfl, by decide +kernel, by decide +kernel⟩
theorem sc_law_edit_of : FnScope ["tape", "text", "start", "end"] ["tape", "text"] (defScope t_law_edit_of) := ⟨rfl, rfl, rfl, by decide +kernel, rfl, by decide +kernel, by decide +kernel⟩
theorem sc_run_end : FnScope ["text", "start", "allowed", "end"] ["text", "start", "allowed"] (defScope t_run_end) := ⟨rfl, rfl, rfl, by decide +kernel, rfl, by decide +kernel, by decide +kernel⟩
theorem sc_token_at : FnScope ["text", "start", "char", "end"] ["text", "start"] (defScope t_token_at) := ⟨rfl, rfl, rfl, by decide +kernel, rfl, by decide +kernel, by decide +kernel⟩
theorem sc_tokens_between : FnScope ["text", "start", "end", "result", "at", "line_end", "token"] ["text", "start", "end"] (defScope t_tokens_between) := ⟨rfl, rfl, rfl, by decide +kernel, rfl, by decide +kernel, by decide +kernel⟩
theorem sc_tokens : FnScope ["text"] ["text"] (defScope t_tokens) := ⟨rfl, rfl, rfl, by decide +kernel, rfl, by decide +kernel, by decide +kernel⟩
theorem sc_is_name : FnScope ["value"] ["value"] (defScope t_is_name) := ⟨rfl, rfl, rfl, by decide +kernel, rfl, by decide +kernel, by decide +kernel⟩
theorem sc_has_right_characters : FnScope ["value", "char"] ["value"] (defScope t_has_right_characters) := ⟨rfl, rfl, rfl, by decide +kernel, rfl, by decide +kernel, by decide +kernel⟩
theorem sc_is_text : FnScope ["value"] ["value"] (defScope t_is_text) := ⟨rfl, rfl, rfl, by decide +kernel, rfl, by decide +kernel, by decide +kernel⟩
theorem sc_apply_edit : FnScope ["text", "edit", "result", "start", "end", "new"] ["text", "edit"] (defScope t_apply_edit) := ⟨rfl, rfl, rfl, by decide +kernel, rfl, by decide +kernel, by decide +kernel⟩
theorem sc_inverse : FnScope ["text", "edit", "start", "end", "new"] ["text", "edit"] (defScope t_inverse) := ⟨rfl, rfl, rfl, by decide +kernel, rfl, by decide +kernel, by decide +kernel⟩
theorem sc_need_module : FnScope ["name", "text"] ["name", "text"] (defScope t_need_module) := ⟨rfl, rfl, rfl, by decide +kernel, rfl, by decide +kernel, by decide +kernel⟩
theorem sc_Keeper__init : FnScope ["self", "compute"] ["self", "compute"] (defScope t_Keeper__init) := ⟨rfl, rfl, rfl, by decide +kernel, rfl, by decide +kernel, by decide +kernel⟩
theorem sc_Keeper_put : FnScope ["self", "key", "value"] ["self", "key", "value"] (defScope t_Keeper_put) := ⟨rfl, rfl, rfl, by decide +kernel, rfl, by decide +kernel, by decide +kernel⟩
theorem sc_Keeper_computed : FnScope ["self", "done"] ["self"] (defScope t_Keeper_computed) := ⟨rfl, rfl, rfl, by decide +kernel, rfl, by decide +kernel, by decide +kernel⟩
theorem sc_new_keeper : FnScope ["program", "keeper", "module"] ["program"] (defScope t_new_keeper) := ⟨rfl, rfl, rfl, by decide +kernel, rfl, by decide +kernel, by decide +kernel⟩
theorem sc_Server__init : FnScope ["self", "program", "module"] ["self", "program"] (defScope t_Server__init) := ⟨rfl, rfl, rfl, by decide +kernel, rfl, by decide +kernel, by decide +kernel⟩
theorem sc_Server_modules : FnScope ["self"] ["self"] (defScope t_Server_modules) := ⟨rfl, rfl, rfl, by decide +kernel, rfl, by decide +kernel, by decide +kernel⟩
theorem sc_Server_program : FnScope ["self"] ["self"] (defScope t_Server_program) := ⟨rfl, rfl, rfl, by decide +kernel, rfl, by decide +kernel, by decide +kernel⟩
theorem sc_Server_need_file : FnScope ["self", "module"] ["self", "module"] (defScope t_Server_need_file) := ⟨rfl, rfl, rfl, by decide +kernel, rfl, by decide +kernel, by decide +kernel⟩
theorem sc_Server_forget_steps : FnScope ["self"] ["self"] (defScope t_Server_forget_steps) := ⟨rfl, rfl, rfl, by decide +kernel, rfl, by decide +kernel, by decide +kernel⟩
theorem sc_Server_open_file : FnScope ["self", "module", "text"] ["self", "module", "text"] (defScope t_Server_open_file) := ⟨rfl, rfl, rfl, by decide +kernel, rfl, by decide +kernel, by decide +kernel⟩
theorem sc_Server_set_text : FnScope ["self", "module", "text"] ["self", "module", "text"] (defScope t_Server_set_text) := ⟨rfl, rfl, rfl, by decide +kernel, rfl, by decide +kernel, by decide +kernel⟩
theorem sc_Server_do_step : FnScope ["self", "edits", "back", "module", "edit", "text"] ["self", "edits"] (defScope t_Server_do_step) := ⟨rfl, rfl, rfl, by decide +kernel, rfl, by decide +kernel, by decide +kernel⟩
theorem sc_Server_edit : FnScope ["self", "module", "edit"] ["self", "module", "edit"] (defScope t_Server_edit) := ⟨rfl, rfl, rfl, by decide +kernel, rfl, by decide +kernel, by decide +kernel⟩
theorem sc_Server_undo : FnScope ["self"] ["self"] (defScope t_Server_undo) := ⟨rfl, rfl, rfl, by decide +kernel, rfl, by decide +kernel, by decide +kernel⟩
theorem sc_Server_redo : FnScope ["self"] ["self"] (defScope t_Server_redo) := ⟨rfl, rfl, rfl, by decide +kernel, rfl, by decide +kernel, by decide +kernel⟩
theorem sc_law_do : FnScope ["server", "act", "e"] ["server", "act"] (defScope t_law_do) := ⟨rfl, rfl, rfl, by decide +kernel, rfl, by decide +kernel, by decide +kernel⟩
theorem sc_law_expected : FnScope ["known", "act", "texts", "new", "text", "start", "end", "string"] ["known", "act"] (defScope t_law_expected) := ⟨rfl, rfl, rfl, by decide +kernel, rfl, by decide +kernel, by decide +kernel⟩
theorem sc_law_act : FnScope ["tape", "known", "texts", "choice", "module", "text", "start", "end", "new"] ["tape", "known"] (defScope t_law_act) := ⟨rfl, rfl, rfl, by decide +kernel, rfl, by decide +kernel, by decide +kernel⟩
theorem sc_law : FnScope ["script", "tape", "texts", "server", "known", "k", "act"] ["script"] (defScope t_law) := ⟨rfl, rfl, rfl, by decide +kernel, rfl, by decide +kernel, by decide +kernel⟩
/-- where the defs stand -/
structure Ad where
  C_FileExists : Addr
  C_InvalidEdit : Addr
  C_Keeper : Addr
  C_NothingToUndo : Addr
  C_Server : Addr
  C_ServerError : Addr
  C_UnknownFile : Addr
  f_law_tape : Addr
  x_law_tape : FuncData
  f_law_take : Addr
  x_law_take : FuncData
  f_law_is_integer : Addr
  x_law_is_integer : FuncData
  f_law_same_items : Addr
  x_law_same_items : FuncData
  f_law_same : Addr
  x_law_same : FuncData
  f_law_snippet : Addr
  x_law_snippet : FuncData
  f_law_edit_of : Addr
  x_law_edit_of : FuncData
  f_run_end : Addr
  x_run_end : FuncData
  f_token_at : Addr
  x_token_at : FuncData
  f_tokens_between : Addr
  x_tokens_between : FuncData
  f_tokens : Addr
  x_tokens : FuncData
  f_is_name : Addr
  x_is_name : FuncData
  f_has_right_characters : Addr
  x_has_right_characters : FuncData
  f_is_text : Addr
  x_is_text : FuncData
  f_apply_edit : Addr
  x_apply_edit : FuncData
  f_inverse : Addr
  x_inverse : FuncData
  f_need_module : Addr
  x_need_module : FuncData
  f_Keeper__init : Addr
  x_Keeper__init : FuncData
  f_Keeper_put : Addr
  x_Keeper_put : FuncData
  f_Keeper_computed : Addr
  x_Keeper_computed : FuncData
  f_new_keeper : Addr
  x_new_keeper : FuncData
  f_Server__init : Addr
  x_Server__init : FuncData
  f_Server_modules : Addr
  x_Server_modules : FuncData
  f_Server_program : Addr
  x_Server_program : FuncData
  f_Server_need_file : Addr
  x_Server_need_file : FuncData
  f_Server_forget_steps : Addr
  x_Server_forget_steps : FuncData
  f_Server_open_file : Addr
  x_Server_open_file : FuncData
  f_Server_set_text : Addr
  x_Server_set_text : FuncData
  f_Server_do_step : Addr
  x_Server_do_step : FuncData
  f_Server_edit : Addr
  x_Server_edit : FuncData
  f_Server_undo : Addr
  x_Server_undo : FuncData
  f_Server_redo : Addr
  x_Server_redo : FuncData
  f_law_do : Addr
  x_law_do : FuncData
  f_law_expected : Addr
  x_law_expected : FuncData
  f_law_act : Addr
  x_law_act : FuncData
  f_law : Addr
  x_law : FuncData
  f_compute : Addr
structure Txt (K : PySem.W.Frag) (mg : Str → Option Value) (a : Ad) : Prop where
  b_abs : mg "abs" = none
  b_bool : mg "bool" = none
  b_dict : mg "dict" = none
  b_int : mg "int" = none
  b_isinstance : mg "isinstance" = none
  b_len : mg "len" = none
  b_list : mg "list" = none
  b_min : mg "min" = none
  b_range : mg "range" = none
  b_sorted : mg "sorted" = none
  b_str : mg "str" = none
  b_tuple : mg "tuple" = none
  E_FileExists : ExCls K mg "FileExists" a.C_FileExists "ValueError" "ValueError.__new__" "ValueError.__init__" [.type "ValueError", .type "Exception", .type "BaseException", .type "object"]
  E_InvalidEdit : ExCls K mg "InvalidEdit" a.C_InvalidEdit "ValueError" "ValueError.__new__" "ValueError.__init__" [.type "ValueError", .type "Exception", .type "BaseException", .type "object"]
  E_NothingToUndo : ExCls K mg "NothingToUndo" a.C_NothingToUndo "ValueError" "ValueError.__new__" "ValueError.__init__" [.type "ValueError", .type "Exception", .type "BaseException", .type "object"]
  E_ServerError : ExCls K mg "ServerError" a.C_ServerError "ValueError" "ValueError.__new__" "ValueError.__init__" [.type "ValueError", .type "Exception", .type "BaseException", .type "object"]
  E_UnknownFile : ExCls K mg "UnknownFile" a.C_UnknownFile "ValueError" "ValueError.__new__" "ValueError.__init__" [.type "ValueError", .type "Exception", .type "BaseException", .type "object"]
  L_Keeper : Cls K a.C_Keeper
  g_Keeper : mg "Keeper" = some (.ref a.C_Keeper)
  N_Keeper_asked : NoAttr K a.C_Keeper "_asked"
  N_Keeper_compute : NoAttr K a.C_Keeper "_compute"
  N_Keeper_done : NoAttr K a.C_Keeper "_done"
  N_Keeper_entries : NoAttr K a.C_Keeper "_entries"
  N_Keeper_going : NoAttr K a.C_Keeper "_going"
  N_Keeper_inputs : NoAttr K a.C_Keeper "_inputs"
  N_Keeper_left : NoAttr K a.C_Keeper "_left"
  N_Keeper_revision : NoAttr K a.C_Keeper "_revision"
  K_Keeper : Mk K a.C_Keeper a.f_Keeper__init
  M_Keeper_computed : Meth K a.C_Keeper "computed" a.f_Keeper_computed
  M_Keeper_put : Meth K a.C_Keeper "put" a.f_Keeper_put
  L_Server : Cls K a.C_Server
  g_Server : mg "Server" = some (.ref a.C_Server)
  N_Server_done : NoAttr K a.C_Server "_done"
  N_Server_keeper : NoAttr K a.C_Server "_keeper"
  N_Server_texts : NoAttr K a.C_Server "_texts"
  N_Server_undone : NoAttr K a.C_Server "_undone"
  K_Server : Mk K a.C_Server a.f_Server__init
  M_Server_do_step : Meth K a.C_Server "do_step" a.f_Server_do_step
  M_Server_edit : Meth K a.C_Server "edit" a.f_Server_edit
  M_Server_forget_steps : Meth K a.C_Server "forget_steps" a.f_Server_forget_steps
  M_Server_modules : Meth K a.C_Server "modules" a.f_Server_modules
  M_Server_need_file : Meth K a.C_Server "need_file" a.f_Server_need_file
  M_Server_open_file : Meth K a.C_Server "open_file" a.f_Server_open_file
  M_Server_program : Meth K a.C_Server "program" a.f_Server_program
  M_Server_redo : Meth K a.C_Server "redo" a.f_Server_redo
  M_Server_set_text : Meth K a.C_Server "set_text" a.f_Server_set_text
  M_Server_undo : Meth K a.C_Server "undo" a.f_Server_undo
  X_NothingToUndo : ExcC K a.C_NothingToUndo
  m_compute : mg "compute" = some (.ref a.f_compute)
  XM_InvalidEdit_InvalidEdit : PySem.W.exmOne K (.ref a.C_InvalidEdit) (.ref a.C_InvalidEdit) = some (decide (a.C_InvalidEdit = a.C_InvalidEdit))
  XM_InvalidEdit_NothingToUndo : PySem.W.exmOne K (.ref a.C_InvalidEdit) (.ref a.C_NothingToUndo) = some (decide (a.C_InvalidEdit = a.C_NothingToUndo))
  XM_InvalidEdit_UnknownFile : PySem.W.exmOne K (.ref a.C_InvalidEdit) (.ref a.C_UnknownFile) = some (decide (a.C_InvalidEdit = a.C_UnknownFile))
  XM_NothingToUndo_InvalidEdit : PySem.W.exmOne K (.ref a.C_NothingToUndo) (.ref a.C_InvalidEdit) = some (decide (a.C_NothingToUndo = a.C_InvalidEdit))
  XM_NothingToUndo_NothingToUndo : PySem.W.exmOne K (.ref a.C_NothingToUndo) (.ref a.C_NothingToUndo) = some (decide (a.C_NothingToUndo = a.C_NothingToUndo))
  XM_NothingToUndo_UnknownFile : PySem.W.exmOne K (.ref a.C_NothingToUndo) (.ref a.C_UnknownFile) = some (decide (a.C_NothingToUndo = a.C_UnknownFile))
  XM_UnknownFile_InvalidEdit : PySem.W.exmOne K (.ref a.C_UnknownFile) (.ref a.C_InvalidEdit) = some (decide (a.C_UnknownFile = a.C_InvalidEdit))
  XM_UnknownFile_NothingToUndo : PySem.W.exmOne K (.ref a.C_UnknownFile) (.ref a.C_NothingToUndo) = some (decide (a.C_UnknownFile = a.C_NothingToUndo))
  XM_UnknownFile_UnknownFile : PySem.W.exmOne K (.ref a.C_UnknownFile) (.ref a.C_UnknownFile) = some (decide (a.C_UnknownFile = a.C_UnknownFile))
  NX_InvalidEdit_NothingToUndo : decide (a.C_InvalidEdit = a.C_NothingToUndo) = false
  NX_InvalidEdit_UnknownFile : decide (a.C_InvalidEdit = a.C_UnknownFile) = false
  NX_NothingToUndo_InvalidEdit : decide (a.C_NothingToUndo = a.C_InvalidEdit) = false
  NX_NothingToUndo_UnknownFile : decide (a.C_NothingToUndo = a.C_UnknownFile) = false
  NX_UnknownFile_InvalidEdit : decide (a.C_UnknownFile = a.C_InvalidEdit) = false
  NX_UnknownFile_NothingToUndo : decide (a.C_UnknownFile = a.C_NothingToUndo) = false
  J_NothingToUndo_ServerError : PySem.W.kitOne K (.ref a.C_NothingToUndo) (.ref a.C_ServerError) = some true
  k_CHARACTERS : Kst K mg "CHARACTERS" c_CHARACTERS
  k_DIGITS : Kst K mg "DIGITS" c_DIGITS
  k_LETTERS : Kst K mg "LETTERS" c_LETTERS
  k_MOST : Kst K mg "MOST" c_MOST
  k_MOST_MODULES : Kst K mg "MOST_MODULES" c_MOST_MODULES
  k_NAME_CHARACTERS : Kst K mg "NAME_CHARACTERS" c_NAME_CHARACTERS
  k_SIGNS : Kst K mg "SIGNS" c_SIGNS
  k_WORDS : Kst K mg "WORDS" c_WORDS
  m_law_tape : mg "_law_tape" = some (.ref a.f_law_tape)
  F_law_tape : Fun K "_law_tape" "_law_tape" t_law_tape a.f_law_tape a.x_law_tape
  B_law_tape : Binds K a.x_law_tape ["script"] []
  m_law_take : mg "_law_take" = some (.ref a.f_law_take)
  F_law_take : Fun K "_law_take" "_law_take" t_law_take a.f_law_take a.x_law_take
  B_law_take : Binds K a.x_law_take ["tape", "many"] []
  m_law_is_integer : mg "_law_is_integer" = some (.ref a.f_law_is_integer)
  F_law_is_integer : Fun K "_law_is_integer" "_law_is_integer" t_law_is_integer a.f_law_is_integer a.x_law_is_integer
  B_law_is_integer : Binds K a.x_law_is_integer ["actual"] []
  m_law_same_items : mg "_law_same_items" = some (.ref a.f_law_same_items)
  F_law_same_items : Fun K "_law_same_items" "_law_same_items" t_law_same_items a.f_law_same_items a.x_law_same_items
  B_law_same_items : Binds K a.x_law_same_items ["actual", "expected"] []
  m_law_same : mg "_law_same" = some (.ref a.f_law_same)
  F_law_same : Fun K "_law_same" "_law_same" t_law_same a.f_law_same a.x_law_same
  B_law_same : Binds K a.x_law_same ["actual", "expected"] []
  m_law_snippet : mg "_law_snippet" = some (.ref a.f_law_snippet)
  F_law_snippet : Fun K "_law_snippet" "_law_snippet" t_law_snippet a.f_law_snippet a.x_law_snippet
  B_law_snippet : Binds K a.x_law_snippet ["tape"] []
  m_law_edit_of : mg "_law_edit_of" = some (.ref a.f_law_edit_of)
  F_law_edit_of : Fun K "_law_edit_of" "_law_edit_of" t_law_edit_of a.f_law_edit_of a.x_law_edit_of
  B_law_edit_of : Binds K a.x_law_edit_of ["tape", "text"] []
  m_run_end : mg "run_end" = some (.ref a.f_run_end)
  F_run_end : Fun K "run_end" "run_end" t_run_end a.f_run_end a.x_run_end
  B_run_end : Binds K a.x_run_end ["text", "start", "allowed"] []
  m_token_at : mg "token_at" = some (.ref a.f_token_at)
  F_token_at : Fun K "token_at" "token_at" t_token_at a.f_token_at a.x_token_at
  B_token_at : Binds K a.x_token_at ["text", "start"] []
  m_tokens_between : mg "tokens_between" = some (.ref a.f_tokens_between)
  F_tokens_between : Fun K "tokens_between" "tokens_between" t_tokens_between a.f_tokens_between a.x_tokens_between
  B_tokens_between : Binds K a.x_tokens_between ["text", "start", "end"] []
  m_tokens : mg "tokens" = some (.ref a.f_tokens)
  F_tokens : Fun K "tokens" "tokens" t_tokens a.f_tokens a.x_tokens
  B_tokens : Binds K a.x_tokens ["text"] []
  m_is_name : mg "is_name" = some (.ref a.f_is_name)
  F_is_name : Fun K "is_name" "is_name" t_is_name a.f_is_name a.x_is_name
  B_is_name : Binds K a.x_is_name ["value"] []
  m_has_right_characters : mg "has_right_characters" = some (.ref a.f_has_right_characters)
  F_has_right_characters : Fun K "has_right_characters" "has_right_characters" t_has_right_characters a.f_has_right_characters a.x_has_right_characters
  B_has_right_characters : Binds K a.x_has_right_characters ["value"] []
  m_is_text : mg "is_text" = some (.ref a.f_is_text)
  F_is_text : Fun K "is_text" "is_text" t_is_text a.f_is_text a.x_is_text
  B_is_text : Binds K a.x_is_text ["value"] []
  m_apply_edit : mg "apply_edit" = some (.ref a.f_apply_edit)
  F_apply_edit : Fun K "apply_edit" "apply_edit" t_apply_edit a.f_apply_edit a.x_apply_edit
  B_apply_edit : Binds K a.x_apply_edit ["text", "edit"] []
  m_inverse : mg "inverse" = some (.ref a.f_inverse)
  F_inverse : Fun K "inverse" "inverse" t_inverse a.f_inverse a.x_inverse
  B_inverse : Binds K a.x_inverse ["text", "edit"] []
  m_need_module : mg "need_module" = some (.ref a.f_need_module)
  F_need_module : Fun K "need_module" "need_module" t_need_module a.f_need_module a.x_need_module
  B_need_module : Binds K a.x_need_module ["name", "text"] []
  F_Keeper__init : Fun K "__init__" "Keeper.__init__" t_Keeper__init a.f_Keeper__init a.x_Keeper__init
  B_Keeper__init : Binds K a.x_Keeper__init ["self", "compute"] []
  F_Keeper_put : Fun K "put" "Keeper.put" t_Keeper_put a.f_Keeper_put a.x_Keeper_put
  B_Keeper_put : Binds K a.x_Keeper_put ["self", "key", "value"] []
  F_Keeper_computed : Fun K "computed" "Keeper.computed" t_Keeper_computed a.f_Keeper_computed a.x_Keeper_computed
  B_Keeper_computed : Binds K a.x_Keeper_computed ["self"] []
  m_new_keeper : mg "new_keeper" = some (.ref a.f_new_keeper)
  F_new_keeper : Fun K "new_keeper" "new_keeper" t_new_keeper a.f_new_keeper a.x_new_keeper
  B_new_keeper : Binds K a.x_new_keeper ["program"] []
  F_Server__init : Fun K "__init__" "Server.__init__" t_Server__init a.f_Server__init a.x_Server__init
  B_Server__init : Binds K a.x_Server__init ["self", "program"] []
  F_Server_modules : Fun K "modules" "Server.modules" t_Server_modules a.f_Server_modules a.x_Server_modules
  B_Server_modules : Binds K a.x_Server_modules ["self"] []
  F_Server_program : Fun K "program" "Server.program" t_Server_program a.f_Server_program a.x_Server_program
  B_Server_program : Binds K a.x_Server_program ["self"] []
  F_Server_need_file : Fun K "need_file" "Server.need_file" t_Server_need_file a.f_Server_need_file a.x_Server_need_file
  B_Server_need_file : Binds K a.x_Server_need_file ["self", "module"] []
  F_Server_forget_steps : Fun K "forget_steps" "Server.forget_steps" t_Server_forget_steps a.f_Server_forget_steps a.x_Server_forget_steps
  B_Server_forget_steps : Binds K a.x_Server_forget_steps ["self"] []
  F_Server_open_file : Fun K "open_file" "Server.open_file" t_Server_open_file a.f_Server_open_file a.x_Server_open_file
  B_Server_open_file : Binds K a.x_Server_open_file ["self", "module", "text"] []
  F_Server_set_text : Fun K "set_text" "Server.set_text" t_Server_set_text a.f_Server_set_text a.x_Server_set_text
  B_Server_set_text : Binds K a.x_Server_set_text ["self", "module", "text"] []
  F_Server_do_step : Fun K "do_step" "Server.do_step" t_Server_do_step a.f_Server_do_step a.x_Server_do_step
  B_Server_do_step : Binds K a.x_Server_do_step ["self", "edits"] []
  F_Server_edit : Fun K "edit" "Server.edit" t_Server_edit a.f_Server_edit a.x_Server_edit
  B_Server_edit : Binds K a.x_Server_edit ["self", "module", "edit"] []
  F_Server_undo : Fun K "undo" "Server.undo" t_Server_undo a.f_Server_undo a.x_Server_undo
  B_Server_undo : Binds K a.x_Server_undo ["self"] []
  F_Server_redo : Fun K "redo" "Server.redo" t_Server_redo a.f_Server_redo a.x_Server_redo
  B_Server_redo : Binds K a.x_Server_redo ["self"] []
  m_law_do : mg "_law_do" = some (.ref a.f_law_do)
  F_law_do : Fun K "_law_do" "_law_do" t_law_do a.f_law_do a.x_law_do
  B_law_do : Binds K a.x_law_do ["server", "act"] []
  m_law_expected : mg "_law_expected" = some (.ref a.f_law_expected)
  F_law_expected : Fun K "_law_expected" "_law_expected" t_law_expected a.f_law_expected a.x_law_expected
  B_law_expected : Binds K a.x_law_expected ["known", "act"] []
  m_law_act : mg "_law_act" = some (.ref a.f_law_act)
  F_law_act : Fun K "_law_act" "_law_act" t_law_act a.f_law_act a.x_law_act
  B_law_act : Binds K a.x_law_act ["tape", "known"] []
  m_law : mg "law" = some (.ref a.f_law)
  F_law : Fun K "law" "law" t_law a.f_law a.x_law
  B_law : Binds K a.x_law ["script"] []
section
variable {P : Program} {w : World} {K : PySem.W.Frag} {mg : Str → Option Value} {base : Heap} {a : Ad}
theorem ok_law_tape (T : Txt K mg a) {k : Nat} {sp : Sp} (mono : Mono sp) (len : ∀ ws G Q E, sp ws G Q E → ws.length = 1)
    (vc : ∀ ws G Q E, Fgt Q E → sp ws G Q E → rd_law_tape { nx := fun _ G' => Q .non G', rt := Q, ex := fun _ => E } (startF 4 ws) G) :
    Ok3 P w K mg base (k + 1) a.f_law_tape a.x_law_tape ["script"] sp :=
  ok3 mono T.F_law_tape sc_law_tape len (fun cdv A outer s H E hR => have hr := hR.room2; (pss3_cons (ps3_setLc (i := 1) (own := [("cell", 3)]) rfl sc_law_tape.nd rfl rfl (sw_true rfl rfl rfl (by decide +kernel)) (pi3_val (pe3_var (pv 0))) (blkOk_by (own := [("cell", 3)]) (N := ["script", "cells", "seed", "cell"]) (sc := defScope t_law_tape) (by decide +kernel)) (fun _ _ _ _ _ => (pg3_name (i := 3) sc_law_tape.nd rfl (by first | exact Or.inl rfl | exact Or.inr rfl))) (fun _ _ _ _ _ => pts3_nil) (fun _ _ _ _ _ => (pe3_blt b_abs (by rfl) T.b_abs (by decide +kernel) (pa3_cons (pe3_bty b_int (by rfl) T.b_int (by decide +kernel) (pa3_cons (pe3_var (pv 3)) pa3_nil)) pa3_nil)))) (pss3_cons (ps3_set (i := 2) sc_law_tape.nd rfl (by first | exact Or.inl rfl | exact Or.inr rfl) pe3_int) (pss3_cons (ps3_for (passes_of rfl) rfl (pi3_val (pe3_var (pv 1))) (pg3_name (i := 3) sc_law_tape.nd rfl (by first | exact Or.inl rfl | exact Or.inr rfl)) (pss3_one (ps3_set (i := 2) sc_law_tape.nd rfl (by first | exact Or.inl rfl | exact Or.inr rfl) (pe3_op o_mod (pe3_bty b_int (by rfl) T.b_int (by decide +kernel) (pa3_cons (pe3_op o_add (pe3_op o_mul (pe3_var (pv 2)) pe3_int) (pe3_var (pv 3))) pa3_nil)) pe3_int)))) (pss3_one (ps3_ret (pe3_disp (pps3_cons (pe3_str (l := [99, 101, 108, 108, 115]) (by decide +kernel)) (pe3_var (pv 1)) (pps3_cons (pe3_str (l := [97, 116]) (by decide +kernel)) pe3_int (pps3_cons (pe3_str (l := [108, 101, 102, 116]) (by decide +kernel)) pe3_int (pps3_cons (pe3_str (l := [115, 101, 101, 100]) (by decide +kernel)) (pe3_var (pv 2)) (pps3_cons (pe3_str (l := [115, 97, 108, 116]) (by decide +kernel)) pe3_int pps3_nil))))) (by rfl) (by rfl) (fun z => nomatch z) (by decide)))))))) vc
theorem ok_law_take (T : Txt K mg a) {k : Nat} {sp : Sp} (mono : Mono sp) (len : ∀ ws G Q E, sp ws G Q E → ws.length = 2)
    (vc : ∀ ws G Q E, Fgt Q E → sp ws G Q E → rd_law_take { nx := fun _ G' => Q .non G', rt := Q, ex := fun _ => E } (startF 4 ws) G) :
    Ok3 P w K mg base (k + 1) a.f_law_take a.x_law_take ["tape", "many"] sp :=
  ok3 mono T.F_law_take sc_law_take len (fun cdv A outer s H E hR => have hr := hR.room2; (pss3_cons (ps3_if (PW3.pt (pw3_and (pt3_cmp (o_eq hr.units) (pe3_dget (hu_of hr) (pe3_var (pv 0)) (pe3_str (l := [108, 101, 102, 116]) (by decide +kernel)) (fun _ _ => rfl)) pe3_int (nomark _)) (pw3_and1 (pt3_cmp o_lt (pe3_dget (hu_of hr) (pe3_var (pv 0)) (pe3_str (l := [97, 116]) (by decide +kernel)) (fun _ _ => rfl)) (pe3_blt b_len (by rfl) T.b_len (by decide +kernel) (pa3_cons (pe3_dget (hu_of hr) (pe3_var (pv 0)) (pe3_str (l := [99, 101, 108, 108, 115]) (by decide +kernel)) (fun _ _ => rfl)) pa3_nil)) (nomark _))))) (pss3_cons (ps3_dput (hu_of hr) (pe3_var (pv 0)) (pe3_str (l := [108, 101, 102, 116]) (by decide +kernel)) (pe3_ix x_ix (pe3_dget (hu_of hr) (pe3_var (pv 0)) (pe3_str (l := [99, 101, 108, 108, 115]) (by decide +kernel)) (fun _ _ => rfl)) (pe3_dget (hu_of hr) (pe3_var (pv 0)) (pe3_str (l := [97, 116]) (by decide +kernel)) (fun _ _ => rfl)) (fun _ _ => rfl))) (pss3_one (ps3_dput (hu_of hr) (pe3_var (pv 0)) (pe3_str (l := [97, 116]) (by decide +kernel)) (pe3_op o_add (pe3_dget (hu_of hr) (pe3_var (pv 0)) (pe3_str (l := [97, 116]) (by decide +kernel)) (fun _ _ => rfl)) pe3_int)))) pss3_nil) (pss3_cons (ps3_if (pt3_cmp o_gt (pe3_dget (hu_of hr) (pe3_var (pv 0)) (pe3_str (l := [108, 101, 102, 116]) (by decide +kernel)) (fun _ _ => rfl)) pe3_int (nomark _)) (pss3_cons (ps3_set (i := 3) sc_law_take.nd rfl (by first | exact Or.inl rfl | exact Or.inr rfl) (pe3_op o_mod (pe3_bty b_int (by rfl) T.b_int (by decide +kernel) (pa3_cons (pe3_dget (hu_of hr) (pe3_var (pv 0)) (pe3_str (l := [108, 101, 102, 116]) (by decide +kernel)) (fun _ _ => rfl)) pa3_nil)) (pe3_var (pv 1)))) (pss3_cons (ps3_dput (hu_of hr) (pe3_var (pv 0)) (pe3_str (l := [108, 101, 102, 116]) (by decide +kernel)) (pe3_op o_div (pe3_dget (hu_of hr) (pe3_var (pv 0)) (pe3_str (l := [108, 101, 102, 116]) (by decide +kernel)) (fun _ _ => rfl)) (pe3_var (pv 1)))) (pss3_one (ps3_ret (pe3_var (pv 3)))))) pss3_nil) (pss3_cons (ps3_dput (hu_of hr) (pe3_var (pv 0)) (pe3_str (l := [115, 97, 108, 116]) (by decide +kernel)) (pe3_op o_add (pe3_dget (hu_of hr) (pe3_var (pv 0)) (pe3_str (l := [115, 97, 108, 116]) (by decide +kernel)) (fun _ _ => rfl)) pe3_int)) (pss3_cons (ps3_set (i := 2) sc_law_take.nd rfl (by first | exact Or.inl rfl | exact Or.inr rfl) (pe3_op o_mod (pe3_bty b_int (by rfl) T.b_int (by decide +kernel) (pa3_cons (pe3_op o_add (pe3_op o_mul (pe3_dget (hu_of hr) (pe3_var (pv 0)) (pe3_str (l := [115, 101, 101, 100]) (by decide +kernel)) (fun _ _ => rfl)) pe3_int) (pe3_op o_mul (pe3_dget (hu_of hr) (pe3_var (pv 0)) (pe3_str (l := [115, 97, 108, 116]) (by decide +kernel)) (fun _ _ => rfl)) pe3_int)) pa3_nil)) pe3_int)) (pss3_cons (ps3_set (i := 2) sc_law_take.nd rfl (by first | exact Or.inl rfl | exact Or.inr rfl) (pe3_op o_mod (pe3_bty b_int (by rfl) T.b_int (by decide +kernel) (pa3_cons (pe3_op o_add (pe3_op o_add (pe3_op o_mul (pe3_var (pv 2)) (pe3_var (pv 2))) (pe3_op o_mul (pe3_dget (hu_of hr) (pe3_var (pv 0)) (pe3_str (l := [115, 97, 108, 116]) (by decide +kernel)) (fun _ _ => rfl)) pe3_int)) pe3_int) pa3_nil)) pe3_int)) (pss3_one (ps3_ret (pe3_op o_mod (pe3_bty b_int (by rfl) T.b_int (by decide +kernel) (pa3_cons (pe3_var (pv 2)) pa3_nil)) (pe3_var (pv 1))))))))))) vc
theorem ok_law_is_integer (T : Txt K mg a) {k : Nat} {sp : Sp} (mono : Mono sp) (len : ∀ ws G Q E, sp ws G Q E → ws.length = 1)
    (vc : ∀ ws G Q E, Fgt Q E → sp ws G Q E → rd_law_is_integer { nx := fun _ G' => Q .non G', rt := Q, ex := fun _ => E } (startF 1 ws) G) :
    Ok3 P w K mg base (k + 1) a.f_law_is_integer a.x_law_is_integer ["actual"] sp :=
  ok3 mono T.F_law_is_integer sc_law_is_integer len (fun cdv A outer s H E hR => have hr := hR.room2; (pss3_one (ps3_ret (pe3_and (pe3_blt b_isi (by rfl) T.b_isinstance (by decide +kernel) (pa3_cons (pe3_var (pv 0)) (pa3_cons (pe3_c (pe_bltn (v := .ty "int") (by rfl) T.b_int (by decide +kernel) rfl) fun _ => rty) pa3_nil))) (pe3_one (pe3_not (pe3_blt b_isi (by rfl) T.b_isinstance (by decide +kernel) (pa3_cons (pe3_var (pv 0)) (pa3_cons (pe3_c (pe_bltn (v := .ty "bool") (by rfl) T.b_bool (by decide +kernel) rfl) fun _ => rty) pa3_nil))))))))) vc
theorem ok_law_same_items (T : Txt K mg a) {k : Nat} {sp : Sp} {s_law_same : Sp} {k_law_same : Nat} (G_law_same : Ok3 P w K mg base k_law_same a.f_law_same a.x_law_same ["actual", "expected"] s_law_same) (h_law_same : k_law_same ≤ k) (mono : Mono sp) (len : ∀ ws G Q E, sp ws G Q E → ws.length = 2)
    (vc : ∀ ws G Q E, Fgt Q E → sp ws G Q E → rd_law_same_items s_law_same { nx := fun _ G' => Q .non G', rt := Q, ex := fun _ => E } (startF 3 ws) G) :
    Ok3 P w K mg base (k + 1) a.f_law_same_items a.x_law_same_items ["actual", "expected"] sp :=
  ok3 mono T.F_law_same_items sc_law_same_items len (fun cdv A outer s H E hR => have hr := hR.room2; (pss3_cons (ps3_if (pt3_cmp (o_ne hr.units) (pe3_blt b_len (by rfl) T.b_len (by decide +kernel) (pa3_cons (pe3_var (pv 0)) pa3_nil)) (pe3_blt b_len (by rfl) T.b_len (by decide +kernel) (pa3_cons (pe3_var (pv 1)) pa3_nil)) (nomark _)) (pss3_one (ps3_ret pe3_bl)) pss3_nil) (pss3_cons (ps3_for (passes_of rfl) rfl (pi3_range1 (by rfl) T.b_range (pa3_cons (pe3_blt b_len (by rfl) T.b_len (by decide +kernel) (pa3_cons (pe3_var (pv 1)) pa3_nil)) pa3_nil)) (pg3_name (i := 2) sc_law_same_items.nd rfl (by first | exact Or.inl rfl | exact Or.inr rfl)) (pss3_one (ps3_if (pt3_not (pt3_tru (pe3_call G_law_same (hR.mono h_law_same) (by rfl) T.m_law_same T.F_law_same.kp T.B_law_same (pa3_cons (pe3_ix x_ix (pe3_var (pv 0)) (pe3_var (pv 2)) (fun _ _ => rfl)) (pa3_cons (pe3_ix x_ix (pe3_var (pv 1)) (pe3_var (pv 2)) (fun _ _ => rfl)) pa3_nil))))) (pss3_one (ps3_ret pe3_bl)) pss3_nil))) (pss3_one (ps3_ret pe3_bl))))) vc
theorem ok_law_same (T : Txt K mg a) {k : Nat} {sp : Sp} {s_law_is_integer : Sp} {k_law_is_integer : Nat} (G_law_is_integer : Ok3 P w K mg base k_law_is_integer a.f_law_is_integer a.x_law_is_integer ["actual"] s_law_is_integer) (h_law_is_integer : k_law_is_integer ≤ k) {s_law_same_items : Sp} {k_law_same_items : Nat} (G_law_same_items : Ok3 P w K mg base k_law_same_items a.f_law_same_items a.x_law_same_items ["actual", "expected"] s_law_same_items) (h_law_same_items : k_law_same_items ≤ k) {s_law_same : Sp} {k_law_same : Nat} (G_law_same : Ok3 P w K mg base k_law_same a.f_law_same a.x_law_same ["actual", "expected"] s_law_same) (h_law_same : k_law_same ≤ k) (mono : Mono sp) (len : ∀ ws G Q E, sp ws G Q E → ws.length = 2)
    (vc : ∀ ws G Q E, Fgt Q E → sp ws G Q E → rd_law_same s_law_is_integer s_law_same_items s_law_same { nx := fun _ G' => Q .non G', rt := Q, ex := fun _ => E } (startF 3 ws) G) :
    Ok3 P w K mg base (k + 1) a.f_law_same a.x_law_same ["actual", "expected"] sp :=
  ok3 mono T.F_law_same sc_law_same len (fun cdv A outer s H E hR => have hr := hR.room2; (pss3_cons (ps3_if (pt3_cmp o_is (pe3_var (pv 1)) pe3_non (nomark _)) (pss3_one (ps3_ret (pe3_cmp o_is (pe3_var (pv 0)) pe3_non (nomark _)))) pss3_nil) (pss3_cons (ps3_if (pt3_tru (pe3_blt b_isi (by rfl) T.b_isinstance (by decide +kernel) (pa3_cons (pe3_var (pv 1)) (pa3_cons (pe3_c (pe_bltn (v := .ty "bool") (by rfl) T.b_bool (by decide +kernel) rfl) fun _ => rty) pa3_nil)))) (pss3_one (ps3_ret (pe3_and (pe3_blt b_isi (by rfl) T.b_isinstance (by decide +kernel) (pa3_cons (pe3_var (pv 0)) (pa3_cons (pe3_c (pe_bltn (v := .ty "bool") (by rfl) T.b_bool (by decide +kernel) rfl) fun _ => rty) pa3_nil))) (pe3_one (pe3_cmp (o_eq hr.units) (pe3_var (pv 0)) (pe3_var (pv 1)) (nomark _)))))) pss3_nil) (pss3_cons (ps3_if (pt3_tru (pe3_blt b_isi (by rfl) T.b_isinstance (by decide +kernel) (pa3_cons (pe3_var (pv 1)) (pa3_cons (pe3_c (pe_bltn (v := .ty "int") (by rfl) T.b_int (by decide +kernel) rfl) fun _ => rty) pa3_nil)))) (pss3_one (ps3_ret (pe3_and (pe3_call G_law_is_integer (hR.mono h_law_is_integer) (by rfl) T.m_law_is_integer T.F_law_is_integer.kp T.B_law_is_integer (pa3_cons (pe3_var (pv 0)) pa3_nil)) (pe3_one (pe3_cmp (o_eq hr.units) (pe3_var (pv 0)) (pe3_var (pv 1)) (nomark _)))))) pss3_nil) (pss3_cons (ps3_if (pt3_tru (pe3_blt b_isi (by rfl) T.b_isinstance (by decide +kernel) (pa3_cons (pe3_var (pv 1)) (pa3_cons (pe3_c (pe_bltn (v := .ty "str") (by rfl) T.b_str (by decide +kernel) rfl) fun _ => rty) pa3_nil)))) (pss3_one (ps3_ret (pe3_and (pe3_blt b_isi (by rfl) T.b_isinstance (by decide +kernel) (pa3_cons (pe3_var (pv 0)) (pa3_cons (pe3_c (pe_bltn (v := .ty "str") (by rfl) T.b_str (by decide +kernel) rfl) fun _ => rty) pa3_nil))) (pe3_one (pe3_cmp (o_eq hr.units) (pe3_var (pv 0)) (pe3_var (pv 1)) (nomark _)))))) pss3_nil) (pss3_cons (ps3_if (pt3_tru (pe3_blt b_isi (by rfl) T.b_isinstance (by decide +kernel) (pa3_cons (pe3_var (pv 1)) (pa3_cons (pe3_c (pe_bltn (v := .ty "tuple") (by rfl) T.b_tuple (by decide +kernel) rfl) fun _ => rty) pa3_nil)))) (pss3_one (ps3_ret (pe3_and (pe3_blt b_isi (by rfl) T.b_isinstance (by decide +kernel) (pa3_cons (pe3_var (pv 0)) (pa3_cons (pe3_c (pe_bltn (v := .ty "tuple") (by rfl) T.b_tuple (by decide +kernel) rfl) fun _ => rty) pa3_nil))) (pe3_one (pe3_call G_law_same_items (hR.mono h_law_same_items) (by rfl) T.m_law_same_items T.F_law_same_items.kp T.B_law_same_items (pa3_cons (pe3_var (pv 0)) (pa3_cons (pe3_var (pv 1)) pa3_nil))))))) pss3_nil) (pss3_cons (ps3_if (pt3_tru (pe3_blt b_isi (by rfl) T.b_isinstance (by decide +kernel) (pa3_cons (pe3_var (pv 1)) (pa3_cons (pe3_c (pe_bltn (v := .ty "list") (by rfl) T.b_list (by decide +kernel) rfl) fun _ => rty) pa3_nil)))) (pss3_one (ps3_ret (pe3_and (pe3_blt b_isi (by rfl) T.b_isinstance (by decide +kernel) (pa3_cons (pe3_var (pv 0)) (pa3_cons (pe3_c (pe_bltn (v := .ty "list") (by rfl) T.b_list (by decide +kernel) rfl) fun _ => rty) pa3_nil))) (pe3_one (pe3_call G_law_same_items (hR.mono h_law_same_items) (by rfl) T.m_law_same_items T.F_law_same_items.kp T.B_law_same_items (pa3_cons (pe3_var (pv 0)) (pa3_cons (pe3_var (pv 1)) pa3_nil))))))) pss3_nil) (pss3_cons (ps3_if (PW3.pt (pw3_or (pt3_not (pt3_tru (pe3_blt b_isi (by rfl) T.b_isinstance (by decide +kernel) (pa3_cons (pe3_var (pv 0)) (pa3_cons (pe3_c (pe_bltn (v := .ty "dict") (by rfl) T.b_dict (by decide +kernel) rfl) fun _ => rty) pa3_nil))))) (pw3_or1 (pt3_cmp (o_ne hr.units) (pe3_blt b_len (by rfl) T.b_len (by decide +kernel) (pa3_cons (pe3_var (pv 0)) pa3_nil)) (pe3_blt b_len (by rfl) T.b_len (by decide +kernel) (pa3_cons (pe3_var (pv 1)) pa3_nil)) (nomark _))))) (pss3_one (ps3_ret pe3_bl)) pss3_nil) (pss3_cons (ps3_lock (ps3_for (passes_of rfl) rfl (pi3_keys (pe3_var (pv 1))) (pg3_name (i := 2) sc_law_same.nd rfl (by first | exact Or.inl rfl | exact Or.inr rfl)) (pss3_one (ps3_if (PW3.pt (pw3_or (pt3_cmp (o_notinD (by have h := hu65 hr; exact h)) (pe3_var (pv 2)) (pe3_var (pv 0)) (by rfl)) (pw3_or1 (pt3_not (pt3_tru (pe3_call G_law_same (hR.mono h_law_same) (by rfl) T.m_law_same T.F_law_same.kp T.B_law_same (pa3_cons (pe3_ix (x_at (hu_of hr)) (pe3_var (pv 0)) (pe3_var (pv 2)) (fun _ _ => rfl)) (pa3_cons (pe3_ix (x_at (hu_of hr)) (pe3_var (pv 1)) (pe3_var (pv 2)) (fun _ _ => rfl)) pa3_nil)))))))) (pss3_one (ps3_ret pe3_bl)) pss3_nil)))) (pss3_cons (ps3_lock (ps3_for (passes_of rfl) rfl (pi3_keys (pe3_var (pv 0))) (pg3_name (i := 2) sc_law_same.nd rfl (by first | exact Or.inl rfl | exact Or.inr rfl)) (pss3_one (ps3_if (pt3_tru (pe3_blt b_isi (by rfl) T.b_isinstance (by decide +kernel) (pa3_cons (pe3_var (pv 2)) (pa3_cons (pe3_c (pe_bltn (v := .ty "bool") (by rfl) T.b_bool (by decide +kernel) rfl) fun _ => rty) pa3_nil)))) (pss3_one (ps3_ret pe3_bl)) pss3_nil)))) (pss3_one (ps3_ret pe3_bl)))))))))))) vc
theorem ok_law_snippet (T : Txt K mg a) {k : Nat} {sp : Sp} {s_law_take : Sp} {k_law_take : Nat} (G_law_take : Ok3 P w K mg base k_law_take a.f_law_take a.x_law_take ["tape", "many"] s_law_take) (h_law_take : k_law_take ≤ k) (mono : Mono sp) (len : ∀ ws G Q E, sp ws G Q E → ws.length = 1)
    (vc : ∀ ws G Q E, Fgt Q E → sp ws G Q E → rd_law_snippet s_law_take { nx := fun _ G' => Q .non G', rt := Q, ex := fun _ => E } (startF 3 ws) G) :
    Ok3 P w K mg base (k + 1) a.f_law_snippet a.x_law_snippet ["tape"] sp :=
  ok3 mono T.F_law_snippet sc_law_snippet len (fun cdv A outer s H E hR => have hr := hR.room2; (pss3_cons (ps3_set (i := 1) sc_law_snippet.nd rfl (by first | exact Or.inl rfl | exact Or.inr rfl) (pe3_lst (pa3_csc (pe3_str (l := [100, 101, 102, 32, 102, 57, 40]) (by decide +kernel)) (pa3_csc (pe3_str (l := [100, 97, 116, 97, 32]) (by decide +kernel)) (pa3_csc (pe3_str (l := [102, 48]) (by decide +kernel)) (pa3_csc (pe3_str (l := [120]) (by decide +kernel)) (pa3_csc (pe3_str (l := [40]) (by decide +kernel)) (pa3_csc (pe3_str (l := [41]) (by decide +kernel)) (pa3_csc (pe3_str (l := [58, 32, 73, 110, 116]) (by decide +kernel)) (pa3_csc (pe3_str (l := [32, 61, 32]) (by decide +kernel)) (pa3_csc (pe3_str (l := [49]) (by decide +kernel)) (pa3_csc (pe3_str (l := [32, 43, 32]) (by decide +kernel)) (pa3_csc (pe3_str (l := [10]) (by decide +kernel)) (pa3_csc (pe3_str (l := [10, 32]) (by decide +kernel)) (pa3_csc (pe3_str (l := [35, 32]) (by decide +kernel)) (pa3_csc (pe3_str (l := [40, 108, 101, 116, 32, 120, 32, 61, 32]) (by decide +kernel)) (pa3_csc (pe3_str (l := [32, 105, 110, 32]) (by decide +kernel)) (pa3_csc (pe3_str (l := [44]) (by decide +kernel)) pa3_csn)))))))))))))))))) (pss3_cons (ps3_set (i := 1) sc_law_snippet.nd rfl (by first | exact Or.inl rfl | exact Or.inr rfl) (pe3_op o_add (pe3_var (pv 1)) (pe3_lst (pa3_csc (pe3_str (l := [105, 109, 112, 111, 114, 116, 32, 109, 97, 105, 110, 58, 32]) (by decide +kernel)) (pa3_csc (pe3_str (l := [97]) (by decide +kernel)) (pa3_csc (pe3_str (l := [68, 48]) (by decide +kernel)) (pa3_csc (pe3_str (l := [103, 48]) (by decide +kernel)) (pa3_csc (pe3_str (l := [84, 48]) (by decide +kernel)) (pa3_csc (pe3_str (l := [66, 111, 111, 108]) (by decide +kernel)) (pa3_csc (pe3_str (l := [105, 102, 32]) (by decide +kernel)) (pa3_csc (pe3_str (l := [32, 116, 104, 101, 110, 32]) (by decide +kernel)) (pa3_csc (pe3_str (l := [32, 101, 108, 115, 101, 32]) (by decide +kernel)) (pa3_csc (pe3_str (l := [46, 120]) (by decide +kernel)) (pa3_csc (pe3_str (l := [32, 61, 61, 32]) (by decide +kernel)) (pa3_csc (pe3_str (l := [102, 49, 40]) (by decide +kernel)) (pa3_csc (pe3_str (l := [113]) (by decide +kernel)) (pa3_csc (pe3_str (l := [32]) (by decide +kernel)) pa3_csn))))))))))))))))) (pss3_one (ps3_ret (pe3_bm PySem.F.plainAttrs_str PySem.F.slot_str_join PySem.F.type_str_join m_join (pe3_str (l := []) (by decide +kernel)) (pa3_cons (pe3_lc (own := [("k", 2)]) rfl sc_law_snippet.nd (pi3_range1 (by rfl) T.b_range (pa3_cons (pe3_call G_law_take (hR.mono h_law_take) (by rfl) T.m_law_take T.F_law_take.kp T.B_law_take (pa3_cons (pe3_var (pv 0)) (pa3_cons pe3_int pa3_nil))) pa3_nil)) (blkOk_by (own := [("k", 2)]) (N := ["tape", "pieces", "k"]) (sc := defScope t_law_snippet) (by decide +kernel)) (fun _ _ _ _ _ => (pg3_name (i := 2) sc_law_snippet.nd rfl (by first | exact Or.inl rfl | exact Or.inr rfl))) (fun _ _ _ _ _ => pts3_nil) (fun _ _ _ _ _ => (pe3_ix x_ix (pe3_var (pv 1)) (pe3_call G_law_take (hR.mono h_law_take) (by rfl) T.m_law_take T.F_law_take.kp T.B_law_take (pa3_cons (pe3_var (pv 0)) (pa3_cons pe3_int pa3_nil))) (fun _ _ => rfl)))) pa3_nil))))))) vc
theorem ok_law_edit_of (T : Txt K mg a) {k : Nat} {sp : Sp} {s_law_take : Sp} {k_law_take : Nat} (G_law_take : Ok3 P w K mg base k_law_take a.f_law_take a.x_law_take ["tape", "many"] s_law_take) (h_law_take : k_law_take ≤ k) {s_law_snippet : Sp} {k_law_snippet : Nat} (G_law_snippet : Ok3 P w K mg base k_law_snippet a.f_law_snippet a.x_law_snippet ["tape"] s_law_snippet) (h_law_snippet : k_law_snippet ≤ k) (mono : Mono sp) (len : ∀ ws G Q E, sp ws G Q E → ws.length = 2)
    (vc : ∀ ws G Q E, Fgt Q E → sp ws G Q E → rd_law_edit_of s_law_take s_law_snippet { nx := fun _ G' => Q .non G', rt := Q, ex := fun _ => E } (startF 4 ws) G) :
    Ok3 P w K mg base (k + 1) a.f_law_edit_of a.x_law_edit_of ["tape", "text"] sp :=
  ok3 mono T.F_law_edit_of sc_law_edit_of len (fun cdv A outer s H E hR => have hr := hR.room2; (pss3_cons (ps3_set (i := 2) sc_law_edit_of.nd rfl (by first | exact Or.inl rfl | exact Or.inr rfl) (pe3_call G_law_take (hR.mono h_law_take) (by rfl) T.m_law_take T.F_law_take.kp T.B_law_take (pa3_cons (pe3_var (pv 0)) (pa3_cons (pe3_op o_add (pe3_blt b_len (by rfl) T.b_len (by decide +kernel) (pa3_cons (pe3_var (pv 1)) pa3_nil)) pe3_int) pa3_nil)))) (pss3_cons (ps3_set (i := 3) sc_law_edit_of.nd rfl (by first | exact Or.inl rfl | exact Or.inr rfl) (pe3_blt (b_min rfl) (by rfl) T.b_min (by decide +kernel) (pa3_cons (pe3_blt b_len (by rfl) T.b_len (by decide +kernel) (pa3_cons (pe3_var (pv 1)) pa3_nil)) (pa3_cons (pe3_op o_add (pe3_var (pv 2)) (pe3_ix (x_at (hu_of hr)) (pe3_lst (pa3_csc pe3_int (pa3_csc pe3_int (pa3_csc pe3_int (pa3_csc pe3_int (pa3_csc pe3_int pa3_csn)))))) (pe3_call G_law_take (hR.mono h_law_take) (by rfl) T.m_law_take T.F_law_take.kp T.B_law_take (pa3_cons (pe3_var (pv 0)) (pa3_cons pe3_int pa3_nil))) (fun _ _ => rfl))) pa3_nil)))) (pss3_one (ps3_ret (pe3_tup (pa3_cons (pe3_var (pv 2)) (pa3_cons (pe3_var (pv 3)) (pa3_cons (pe3_call G_law_snippet (hR.mono h_law_snippet) (by rfl) T.m_law_snippet T.F_law_snippet.kp T.B_law_snippet (pa3_cons (pe3_var (pv 0)) pa3_nil)) pa3_nil))))))))) vc
theorem ok_run_end (T : Txt K mg a) {k : Nat} {sp : Sp} (mono : Mono sp) (len : ∀ ws G Q E, sp ws G Q E → ws.length = 3)
    (vc : ∀ ws G Q E, Fgt Q E → sp ws G Q E → rd_run_end { nx := fun _ G' => Q .non G', rt := Q, ex := fun _ => E } (startF 4 ws) G) :
    Ok3 P w K mg base (k + 1) a.f_run_end a.x_run_end ["text", "start", "allowed"] sp :=
  ok3 mono T.F_run_end sc_run_end len (fun cdv A outer s H E hR => have hr := hR.room2; (pss3_cons (ps3_set (i := 3) sc_run_end.nd rfl (by first | exact Or.inl rfl | exact Or.inr rfl) (pe3_var (pv 1))) (pss3_cons (ps3_while (passes_of rfl) (PW3.pt (pw3_and (pt3_cmp o_lt (pe3_var (pv 3)) (pe3_blt b_len (by rfl) T.b_len (by decide +kernel) (pa3_cons (pe3_var (pv 0)) pa3_nil)) (nomark _)) (pw3_and1 (pt3_cmp (o_inD (by have h := hu65 hr; exact h)) (pe3_ix (x_at (hu_of hr)) (pe3_var (pv 0)) (pe3_var (pv 3)) (fun _ _ => rfl)) (pe3_var (pv 2)) (by rfl))))) (pss3_one (ps3_aug (i := 3) sc_run_end.nd rfl (by first | exact Or.inl rfl | exact Or.inr rfl) o_iadd pe3_int))) (pss3_one (ps3_ret (pe3_var (pv 3))))))) vc
theorem ok_token_at (T : Txt K mg a) {k : Nat} {sp : Sp} {s_run_end : Sp} {k_run_end : Nat} (G_run_end : Ok3 P w K mg base k_run_end a.f_run_end a.x_run_end ["text", "start", "allowed"] s_run_end) (h_run_end : k_run_end ≤ k) (mono : Mono sp) (len : ∀ ws G Q E, sp ws G Q E → ws.length = 2)
    (vc : ∀ ws G Q E, Fgt Q E → sp ws G Q E → rd_token_at s_run_end { nx := fun _ G' => Q .non G', rt := Q, ex := fun _ => E } (startF 4 ws) G) :
    Ok3 P w K mg base (k + 1) a.f_token_at a.x_token_at ["text", "start"] sp :=
  ok3 mono T.F_token_at sc_token_at len (fun cdv A outer s H E hR => have hr := hR.room2; (pss3_cons (ps3_set (i := 2) sc_token_at.nd rfl (by first | exact Or.inl rfl | exact Or.inr rfl) (pe3_ix (x_at (hu_of hr)) (pe3_var (pv 0)) (pe3_var (pv 1)) (fun _ _ => rfl))) (pss3_cons (ps3_if (pt3_cmp (o_inD (by have h := hu65 hr; exact h)) (pe3_var (pv 2)) (pe3_kst T.k_LETTERS (by rfl)) (by rfl)) (pss3_cons (ps3_set (i := 3) sc_token_at.nd rfl (by first | exact Or.inl rfl | exact Or.inr rfl) (pe3_call G_run_end (hR.mono h_run_end) (by rfl) T.m_run_end T.F_run_end.kp T.B_run_end (pa3_cons (pe3_var (pv 0)) (pa3_cons (pe3_var (pv 1)) (pa3_cons (pe3_kst T.k_NAME_CHARACTERS (by rfl)) pa3_nil))))) (pss3_cons (ps3_if (pt3_cmp (o_inD (by have h := hu65 hr; exact h)) (pe3_sl (pe3_var (pv 0)) (po3_some (pe3_var (pv 1))) (po3_some (pe3_var (pv 3)))) (pe3_kst T.k_WORDS (by rfl)) (by rfl)) (pss3_one (ps3_ret (pe3_tup (pa3_cons (pe3_str (l := [119, 111, 114, 100]) (by decide +kernel)) (pa3_cons (pe3_var (pv 1)) (pa3_cons (pe3_var (pv 3)) pa3_nil)))))) pss3_nil) (pss3_one (ps3_ret (pe3_tup (pa3_cons (pe3_str (l := [110, 97, 109, 101]) (by decide +kernel)) (pa3_cons (pe3_var (pv 1)) (pa3_cons (pe3_var (pv 3)) pa3_nil)))))))) pss3_nil) (pss3_cons (ps3_if (pt3_cmp (o_inD (by have h := hu65 hr; exact h)) (pe3_var (pv 2)) (pe3_kst T.k_DIGITS (by rfl)) (by rfl)) (pss3_one (ps3_ret (pe3_tup (pa3_cons (pe3_str (l := [110, 117, 109, 98, 101, 114]) (by decide +kernel)) (pa3_cons (pe3_var (pv 1)) (pa3_cons (pe3_call G_run_end (hR.mono h_run_end) (by rfl) T.m_run_end T.F_run_end.kp T.B_run_end (pa3_cons (pe3_var (pv 0)) (pa3_cons (pe3_var (pv 1)) (pa3_cons (pe3_kst T.k_DIGITS (by rfl)) pa3_nil)))) pa3_nil)))))) pss3_nil) (pss3_cons (ps3_if (pt3_cmp (o_eq hr.units) (pe3_sl (pe3_var (pv 0)) (po3_some (pe3_var (pv 1))) (po3_some (pe3_op o_add (pe3_var (pv 1)) pe3_int))) (pe3_str (l := [61, 61]) (by decide +kernel)) (nomark _)) (pss3_one (ps3_ret (pe3_tup (pa3_cons (pe3_str (l := [115, 105, 103, 110]) (by decide +kernel)) (pa3_cons (pe3_var (pv 1)) (pa3_cons (pe3_op o_add (pe3_var (pv 1)) pe3_int) pa3_nil)))))) pss3_nil) (pss3_cons (ps3_if (pt3_cmp (o_inD (by have h := hu65 hr; exact h)) (pe3_var (pv 2)) (pe3_kst T.k_SIGNS (by rfl)) (by rfl)) (pss3_one (ps3_ret (pe3_tup (pa3_cons (pe3_str (l := [115, 105, 103, 110]) (by decide +kernel)) (pa3_cons (pe3_var (pv 1)) (pa3_cons (pe3_op o_add (pe3_var (pv 1)) pe3_int) pa3_nil)))))) pss3_nil) (pss3_one (ps3_ret (pe3_tup (pa3_cons (pe3_str (l := [119, 114, 111, 110, 103]) (by decide +kernel)) (pa3_cons (pe3_var (pv 1)) (pa3_cons (pe3_op o_add (pe3_var (pv 1)) pe3_int) pa3_nil)))))))))))) vc
theorem ok_tokens_between (T : Txt K mg a) {k : Nat} {sp : Sp} {s_token_at : Sp} {k_token_at : Nat} (G_token_at : Ok3 P w K mg base k_token_at a.f_token_at a.x_token_at ["text", "start"] s_token_at) (h_token_at : k_token_at ≤ k) (mono : Mono sp) (len : ∀ ws G Q E, sp ws G Q E → ws.length = 3)
    (vc : ∀ ws G Q E, Fgt Q E → sp ws G Q E → rd_tokens_between s_token_at { nx := fun _ G' => Q .non G', rt := Q, ex := fun _ => E } (startF 7 ws) G) :
    Ok3 P w K mg base (k + 1) a.f_tokens_between a.x_tokens_between ["text", "start", "end"] sp :=
  ok3 mono T.F_tokens_between sc_tokens_between len (fun cdv A outer s H E hR => have hr := hR.room2; (pss3_cons (ps3_set (i := 3) sc_tokens_between.nd rfl (by first | exact Or.inl rfl | exact Or.inr rfl) (pe3_lst pa3_nil)) (pss3_cons (ps3_set (i := 4) sc_tokens_between.nd rfl (by first | exact Or.inl rfl | exact Or.inr rfl) (pe3_var (pv 1))) (pss3_cons (ps3_while (passes_of rfl) (pt3_cmp o_lt (pe3_var (pv 4)) (pe3_var (pv 2)) (nomark _)) (pss3_one (ps3_if (PW3.pt (pw3_or (pt3_cmp (o_eq hr.units) (pe3_ix (x_at (hu_of hr)) (pe3_var (pv 0)) (pe3_var (pv 4)) (fun _ _ => rfl)) (pe3_str (l := [32]) (by decide +kernel)) (nomark _)) (pw3_or1 (pt3_cmp (o_eq hr.units) (pe3_ix (x_at (hu_of hr)) (pe3_var (pv 0)) (pe3_var (pv 4)) (fun _ _ => rfl)) (pe3_str (l := [10]) (by decide +kernel)) (nomark _))))) (pss3_one (ps3_aug (i := 4) sc_tokens_between.nd rfl (by first | exact Or.inl rfl | exact Or.inr rfl) o_iadd pe3_int)) (pss3_one (ps3_if (pt3_cmp (o_eq hr.units) (pe3_ix (x_at (hu_of hr)) (pe3_var (pv 0)) (pe3_var (pv 4)) (fun _ _ => rfl)) (pe3_str (l := [35]) (by decide +kernel)) (nomark _)) (pss3_cons (ps3_set (i := 5) sc_tokens_between.nd rfl (by first | exact Or.inl rfl | exact Or.inr rfl) (pe3_bm PySem.F.plainAttrs_str PySem.F.slot_str_find PySem.F.type_str_find m_find3 (pe3_var (pv 0)) (pa3_cons (pe3_str (l := [10]) (by decide +kernel)) (pa3_cons (pe3_var (pv 4)) pa3_nil)))) (pss3_one (ps3_set (i := 4) sc_tokens_between.nd rfl (by first | exact Or.inl rfl | exact Or.inr rfl) (pe3_if (pt3_cmp o_lt (pe3_var (pv 5)) pe3_int (nomark _)) (pe3_var (pv 2)) (pe3_var (pv 5)))))) (pss3_cons (ps3_set (i := 6) sc_tokens_between.nd rfl (by first | exact Or.inl rfl | exact Or.inr rfl) (pe3_call G_token_at (hR.mono h_token_at) (by rfl) T.m_token_at T.F_token_at.kp T.B_token_at (pa3_cons (pe3_var (pv 0)) (pa3_cons (pe3_var (pv 4)) pa3_nil)))) (pss3_cons (ps3_expr (pe3_bm PySem.F.plainAttrs_list PySem.F.slot_list_append PySem.F.type_list_append m_append (pe3_var (pv 3)) (pa3_cons (pe3_var (pv 6)) pa3_nil))) (pss3_one (ps3_set (i := 4) sc_tokens_between.nd rfl (by first | exact Or.inl rfl | exact Or.inr rfl) (pe3_ix (x_at (hu_of hr)) (pe3_var (pv 6)) pe3_int (fun _ _ => rfl))))))))))) (pss3_one (ps3_ret (pe3_var (pv 3)))))))) vc
theorem ok_tokens (T : Txt K mg a) {k : Nat} {sp : Sp} {s_tokens_between : Sp} {k_tokens_between : Nat} (G_tokens_between : Ok3 P w K mg base k_tokens_between a.f_tokens_between a.x_tokens_between ["text", "start", "end"] s_tokens_between) (h_tokens_between : k_tokens_between ≤ k) (mono : Mono sp) (len : ∀ ws G Q E, sp ws G Q E → ws.length = 1)
    (vc : ∀ ws G Q E, Fgt Q E → sp ws G Q E → rd_tokens s_tokens_between { nx := fun _ G' => Q .non G', rt := Q, ex := fun _ => E } (startF 1 ws) G) :
    Ok3 P w K mg base (k + 1) a.f_tokens a.x_tokens ["text"] sp :=
  ok3 mono T.F_tokens sc_tokens len (fun cdv A outer s H E hR => have hr := hR.room2; (pss3_one (ps3_ret (pe3_call G_tokens_between (hR.mono h_tokens_between) (by rfl) T.m_tokens_between T.F_tokens_between.kp T.B_tokens_between (pa3_cons (pe3_var (pv 0)) (pa3_cons pe3_int (pa3_cons (pe3_blt b_len (by rfl) T.b_len (by decide +kernel) (pa3_cons (pe3_var (pv 0)) pa3_nil)) pa3_nil))))))) vc
theorem ok_is_name (T : Txt K mg a) {k : Nat} {sp : Sp} {s_tokens : Sp} {k_tokens : Nat} (G_tokens : Ok3 P w K mg base k_tokens a.f_tokens a.x_tokens ["text"] s_tokens) (h_tokens : k_tokens ≤ k) (mono : Mono sp) (len : ∀ ws G Q E, sp ws G Q E → ws.length = 1)
    (vc : ∀ ws G Q E, Fgt Q E → sp ws G Q E → rd_is_name s_tokens { nx := fun _ G' => Q .non G', rt := Q, ex := fun _ => E } (startF 1 ws) G) :
    Ok3 P w K mg base (k + 1) a.f_is_name a.x_is_name ["value"] sp :=
  ok3 mono T.F_is_name sc_is_name len (fun cdv A outer s H E hR => have hr := hR.room2; (pss3_one (ps3_ret (pe3_cmp (o_eq hr.units) (pe3_call G_tokens (hR.mono h_tokens) (by rfl) T.m_tokens T.F_tokens.kp T.B_tokens (pa3_cons (pe3_var (pv 0)) pa3_nil)) (pe3_lst (pa3_cons (pe3_tup (pa3_cons (pe3_str (l := [110, 97, 109, 101]) (by decide +kernel)) (pa3_cons pe3_int (pa3_cons (pe3_blt b_len (by rfl) T.b_len (by decide +kernel) (pa3_cons (pe3_var (pv 0)) pa3_nil)) pa3_nil)))) pa3_nil)) (nomark _))))) vc
theorem ok_has_right_characters (T : Txt K mg a) {k : Nat} {sp : Sp} (mono : Mono sp) (len : ∀ ws G Q E, sp ws G Q E → ws.length = 1)
    (vc : ∀ ws G Q E, Fgt Q E → sp ws G Q E → rd_has_right_characters { nx := fun _ G' => Q .non G', rt := Q, ex := fun _ => E } (startF 2 ws) G) :
    Ok3 P w K mg base (k + 1) a.f_has_right_characters a.x_has_right_characters ["value"] sp :=
  ok3 mono T.F_has_right_characters sc_has_right_characters len (fun cdv A outer s H E hR => have hr := hR.room2; (pss3_cons (ps3_for (passes_of rfl) rfl (pi3_val (pe3_var (pv 0))) (pg3_name (i := 1) sc_has_right_characters.nd rfl (by first | exact Or.inl rfl | exact Or.inr rfl)) (pss3_one (ps3_if (pt3_cmp (o_notinD (by have h := hu65 hr; exact h)) (pe3_var (pv 1)) (pe3_kst T.k_CHARACTERS (by rfl)) (by rfl)) (pss3_one (ps3_ret pe3_bl)) pss3_nil))) (pss3_one (ps3_ret pe3_bl)))) vc
theorem ok_is_text (T : Txt K mg a) {k : Nat} {sp : Sp} {s_has_right_characters : Sp} {k_has_right_characters : Nat} (G_has_right_characters : Ok3 P w K mg base k_has_right_characters a.f_has_right_characters a.x_has_right_characters ["value"] s_has_right_characters) (h_has_right_characters : k_has_right_characters ≤ k) (mono : Mono sp) (len : ∀ ws G Q E, sp ws G Q E → ws.length = 1)
    (vc : ∀ ws G Q E, Fgt Q E → sp ws G Q E → rd_is_text s_has_right_characters { nx := fun _ G' => Q .non G', rt := Q, ex := fun _ => E } (startF 1 ws) G) :
    Ok3 P w K mg base (k + 1) a.f_is_text a.x_is_text ["value"] sp :=
  ok3 mono T.F_is_text sc_is_text len (fun cdv A outer s H E hR => have hr := hR.room2; (pss3_one (ps3_ret (pe3_and (pe3_cmp o_le (pe3_blt b_len (by rfl) T.b_len (by decide +kernel) (pa3_cons (pe3_var (pv 0)) pa3_nil)) (pe3_kst T.k_MOST (by rfl)) (nomark _)) (pe3_one (pe3_call G_has_right_characters (hR.mono h_has_right_characters) (by rfl) T.m_has_right_characters T.F_has_right_characters.kp T.B_has_right_characters (pa3_cons (pe3_var (pv 0)) pa3_nil))))))) vc
theorem ok_apply_edit (T : Txt K mg a) {k : Nat} {sp : Sp} {s_has_right_characters : Sp} {k_has_right_characters : Nat} (G_has_right_characters : Ok3 P w K mg base k_has_right_characters a.f_has_right_characters a.x_has_right_characters ["value"] s_has_right_characters) (h_has_right_characters : k_has_right_characters ≤ k) (mono : Mono sp) (len : ∀ ws G Q E, sp ws G Q E → ws.length = 2)
    (vc : ∀ ws G Q E, Fgt Q E → sp ws G Q E → rd_apply_edit a.C_InvalidEdit s_has_right_characters { nx := fun _ G' => Q .non G', rt := Q, ex := fun _ => E } (startF 6 ws) G) :
    Ok3 P w K mg base (k + 1) a.f_apply_edit a.x_apply_edit ["text", "edit"] sp :=
  ok3 mono T.F_apply_edit sc_apply_edit len (fun cdv A outer s H E hR => have hr := hR.room2; (pss3_cons (ps3_asg (pe3_var (pv 1)) (pg3_tup rfl (pgs3_cons (pg3_name (i := 3) sc_apply_edit.nd rfl (by first | exact Or.inl rfl | exact Or.inr rfl)) (pgs3_cons (pg3_name (i := 4) sc_apply_edit.nd rfl (by first | exact Or.inl rfl | exact Or.inr rfl)) (pgs3_cons (pg3_name (i := 5) sc_apply_edit.nd rfl (by first | exact Or.inl rfl | exact Or.inr rfl)) pgs3_nil))))) (pss3_cons (ps3_if (PW3.pt (pw3_or (pt3_not (pt3_ch3 o_le o_le o_le pe3_int (pe3_var (pv 3)) (pe3_var (pv 4)) (pe3_blt b_len (by rfl) T.b_len (by decide +kernel) (pa3_cons (pe3_var (pv 0)) pa3_nil)))) (pw3_or1 (pt3_not (pt3_tru (pe3_call G_has_right_characters (hR.mono h_has_right_characters) (by rfl) T.m_has_right_characters T.F_has_right_characters.kp T.B_has_right_characters (pa3_cons (pe3_var (pv 5)) pa3_nil))))))) (pss3_one (ps3_raise T.E_InvalidEdit rfl (by rfl))) pss3_nil) (pss3_cons (ps3_set (i := 2) sc_apply_edit.nd rfl (by first | exact Or.inl rfl | exact Or.inr rfl) (pe3_op o_add (pe3_op o_add (pe3_sl (pe3_var (pv 0)) po3_none (po3_some (pe3_var (pv 3)))) (pe3_var (pv 5))) (pe3_sl (pe3_var (pv 0)) (po3_some (pe3_var (pv 4))) po3_none))) (pss3_cons (ps3_if (pt3_cmp o_gt (pe3_blt b_len (by rfl) T.b_len (by decide +kernel) (pa3_cons (pe3_var (pv 2)) pa3_nil)) (pe3_kst T.k_MOST (by rfl)) (nomark _)) (pss3_one (ps3_raise T.E_InvalidEdit rfl (by rfl))) pss3_nil) (pss3_one (ps3_ret (pe3_var (pv 2))))))))) vc
theorem ok_inverse (T : Txt K mg a) {k : Nat} {sp : Sp} {s_apply_edit : Sp} {k_apply_edit : Nat} (G_apply_edit : Ok3 P w K mg base k_apply_edit a.f_apply_edit a.x_apply_edit ["text", "edit"] s_apply_edit) (h_apply_edit : k_apply_edit ≤ k) (mono : Mono sp) (len : ∀ ws G Q E, sp ws G Q E → ws.length = 2)
    (vc : ∀ ws G Q E, Fgt Q E → sp ws G Q E → rd_inverse s_apply_edit { nx := fun _ G' => Q .non G', rt := Q, ex := fun _ => E } (startF 5 ws) G) :
    Ok3 P w K mg base (k + 1) a.f_inverse a.x_inverse ["text", "edit"] sp :=
  ok3 mono T.F_inverse sc_inverse len (fun cdv A outer s H E hR => have hr := hR.room2; (pss3_cons (ps3_expr (pe3_call G_apply_edit (hR.mono h_apply_edit) (by rfl) T.m_apply_edit T.F_apply_edit.kp T.B_apply_edit (pa3_cons (pe3_var (pv 0)) (pa3_cons (pe3_var (pv 1)) pa3_nil)))) (pss3_cons (ps3_asg (pe3_var (pv 1)) (pg3_tup rfl (pgs3_cons (pg3_name (i := 2) sc_inverse.nd rfl (by first | exact Or.inl rfl | exact Or.inr rfl)) (pgs3_cons (pg3_name (i := 3) sc_inverse.nd rfl (by first | exact Or.inl rfl | exact Or.inr rfl)) (pgs3_cons (pg3_name (i := 4) sc_inverse.nd rfl (by first | exact Or.inl rfl | exact Or.inr rfl)) pgs3_nil))))) (pss3_one (ps3_ret (pe3_tup (pa3_cons (pe3_var (pv 2)) (pa3_cons (pe3_op o_add (pe3_var (pv 2)) (pe3_blt b_len (by rfl) T.b_len (by decide +kernel) (pa3_cons (pe3_var (pv 4)) pa3_nil))) (pa3_cons (pe3_sl (pe3_var (pv 0)) (po3_some (pe3_var (pv 2))) (po3_some (pe3_var (pv 3)))) pa3_nil))))))))) vc
theorem ok_need_module (T : Txt K mg a) {k : Nat} {sp : Sp} {s_is_name : Sp} {k_is_name : Nat} (G_is_name : Ok3 P w K mg base k_is_name a.f_is_name a.x_is_name ["value"] s_is_name) (h_is_name : k_is_name ≤ k) {s_is_text : Sp} {k_is_text : Nat} (G_is_text : Ok3 P w K mg base k_is_text a.f_is_text a.x_is_text ["value"] s_is_text) (h_is_text : k_is_text ≤ k) (mono : Mono sp) (len : ∀ ws G Q E, sp ws G Q E → ws.length = 2)
    (vc : ∀ ws G Q E, Fgt Q E → sp ws G Q E → rd_need_module a.C_InvalidEdit s_is_name s_is_text { nx := fun _ G' => Q .non G', rt := Q, ex := fun _ => E } (startF 2 ws) G) :
    Ok3 P w K mg base (k + 1) a.f_need_module a.x_need_module ["name", "text"] sp :=
  ok3 mono T.F_need_module sc_need_module len (fun cdv A outer s H E hR => have hr := hR.room2; (pss3_one (ps3_if (PW3.pt (pw3_or (pt3_not (pt3_tru (pe3_call G_is_name (hR.mono h_is_name) (by rfl) T.m_is_name T.F_is_name.kp T.B_is_name (pa3_cons (pe3_var (pv 0)) pa3_nil)))) (pw3_or1 (pt3_not (pt3_tru (pe3_call G_is_text (hR.mono h_is_text) (by rfl) T.m_is_text T.F_is_text.kp T.B_is_text (pa3_cons (pe3_var (pv 1)) pa3_nil))))))) (pss3_one (ps3_raise T.E_InvalidEdit rfl (by rfl))) pss3_nil))) vc
theorem ok_Keeper__init (T : Txt K mg a) {k : Nat} {sp : Sp} (mono : Mono sp) (len : ∀ ws G Q E, sp ws G Q E → ws.length = 2)
    (vc : ∀ ws G Q E, Fgt Q E → sp ws G Q E → rd_Keeper__init a.C_Keeper { nx := fun _ G' => Q .non G', rt := Q, ex := fun _ => E } (startF 2 ws) G) :
    Ok3 P w K mg base (k + 1) a.f_Keeper__init a.x_Keeper__init ["self", "compute"] sp :=
  ok3 mono T.F_Keeper__init sc_Keeper__init len (fun cdv A outer s H E hR => have hr := hR.room2; (pss3_cons (ps3_fld T.L_Keeper T.N_Keeper_compute (by decide) (by decide) rfl (pe3_var (pv 0)) (pe3_var (pv 1))) (pss3_cons (ps3_fld T.L_Keeper T.N_Keeper_inputs (by decide) (by decide) rfl (pe3_var (pv 0)) pe3_dnewT) (pss3_cons (ps3_fld T.L_Keeper T.N_Keeper_entries (by decide) (by decide) rfl (pe3_var (pv 0)) pe3_dnewT) (pss3_cons (ps3_fld T.L_Keeper T.N_Keeper_revision (by decide) (by decide) rfl (pe3_var (pv 0)) pe3_int) (pss3_cons (ps3_fld T.L_Keeper T.N_Keeper_left (by decide) (by decide) rfl (pe3_var (pv 0)) pe3_non) (pss3_cons (ps3_fld T.L_Keeper T.N_Keeper_going (by decide) (by decide) rfl (pe3_var (pv 0)) pe3_dnewT) (pss3_cons (ps3_fld T.L_Keeper T.N_Keeper_asked (by decide) (by decide) rfl (pe3_var (pv 0)) (pe3_lst pa3_nil)) (pss3_one (ps3_fld T.L_Keeper T.N_Keeper_done (by decide) (by decide) rfl (pe3_var (pv 0)) (pe3_lst pa3_nil))))))))))) vc
theorem ok_Keeper_put (T : Txt K mg a) {k : Nat} {sp : Sp} (mono : Mono sp) (len : ∀ ws G Q E, sp ws G Q E → ws.length = 3)
    (vc : ∀ ws G Q E, Fgt Q E → sp ws G Q E → rd_Keeper_put a.C_Keeper { nx := fun _ G' => Q .non G', rt := Q, ex := fun _ => E } (startF 3 ws) G) :
    Ok3 P w K mg base (k + 1) a.f_Keeper_put a.x_Keeper_put ["self", "key", "value"] sp :=
  ok3 mono T.F_Keeper_put sc_Keeper_put len (fun cdv A outer s H E hR => have hr := hR.room2; (pss3_cons (ps3_expr (pe3_dpop2 (hu_of hr) (pe3_fld T.L_Keeper T.N_Keeper_entries (by decide) rfl (pe3_var (pv 0))) (pe3_var (pv 1)) pe3_non)) (pss3_cons (ps3_if (PW3.pt (pw3_and (pt3_cmp (o_inD (by have h := hu65 hr; exact h)) (pe3_var (pv 1)) (pe3_fld T.L_Keeper T.N_Keeper_inputs (by decide) rfl (pe3_var (pv 0))) (by rfl)) (pw3_and1 (pt3_cmp (o_eq hr.units) (pe3_ix (x_at (hu_of hr)) (pe3_ix (x_at (hu_of hr)) (pe3_fld T.L_Keeper T.N_Keeper_inputs (by decide) rfl (pe3_var (pv 0))) (pe3_var (pv 1)) (fun _ _ => rfl)) pe3_int (fun _ _ => rfl)) (pe3_var (pv 2)) (nomark _))))) (pss3_one ps3_retN) pss3_nil) (pss3_cons (ps3_fldaug T.L_Keeper T.N_Keeper_revision (by decide) (by decide) o_iadd (pe3_var (pv 0)) pe3_int) (pss3_one (ps3_putA (hu_of hr) (pe3_tup (pa3_cons (pe3_var (pv 2)) (pa3_cons (pe3_fld T.L_Keeper T.N_Keeper_revision (by decide) rfl (pe3_var (pv 0))) pa3_nil))) (pe3_fld T.L_Keeper T.N_Keeper_inputs (by decide) rfl (pe3_var (pv 0))) (pe3_var (pv 1)))))))) vc
theorem ok_Keeper_computed (T : Txt K mg a) {k : Nat} {sp : Sp} (mono : Mono sp) (len : ∀ ws G Q E, sp ws G Q E → ws.length = 1)
    (vc : ∀ ws G Q E, Fgt Q E → sp ws G Q E → rd_Keeper_computed a.C_Keeper { nx := fun _ G' => Q .non G', rt := Q, ex := fun _ => E } (startF 2 ws) G) :
    Ok3 P w K mg base (k + 1) a.f_Keeper_computed a.x_Keeper_computed ["self"] sp :=
  ok3 mono T.F_Keeper_computed sc_Keeper_computed len (fun cdv A outer s H E hR => have hr := hR.room2; (pss3_cons (ps3_set (i := 1) sc_Keeper_computed.nd rfl (by first | exact Or.inl rfl | exact Or.inr rfl) (pe3_fld T.L_Keeper T.N_Keeper_done (by decide) rfl (pe3_var (pv 0)))) (pss3_cons (ps3_fld T.L_Keeper T.N_Keeper_done (by decide) (by decide) rfl (pe3_var (pv 0)) (pe3_lst pa3_nil)) (pss3_one (ps3_ret (pe3_var (pv 1))))))) vc
theorem ok_new_keeper (T : Txt K mg a) {k : Nat} {sp : Sp} {s_Keeper__init : Sp} {k_Keeper__init : Nat} (G_Keeper__init : Ok3 P w K mg base k_Keeper__init a.f_Keeper__init a.x_Keeper__init ["self", "compute"] s_Keeper__init) (h_Keeper__init : 26 ≤ k ∧ 2 * k_Keeper__init + 2 ≤ k) {s_Keeper_put : Sp} {k_Keeper_put : Nat} (G_Keeper_put : Ok3 P w K mg base k_Keeper_put a.f_Keeper_put a.x_Keeper_put ["self", "key", "value"] s_Keeper_put) (h_Keeper_put : k_Keeper_put ≤ k) (mono : Mono sp) (len : ∀ ws G Q E, sp ws G Q E → ws.length = 1)
    (vc : ∀ ws G Q E, Fgt Q E → sp ws G Q E → rd_new_keeper a.C_Keeper a.f_compute s_Keeper__init s_Keeper_put { nx := fun _ G' => Q .non G', rt := Q, ex := fun _ => E } (startF 3 ws) G) :
    Ok3 P w K mg base (k + 1) a.f_new_keeper a.x_new_keeper ["program"] sp :=
  ok3 mono T.F_new_keeper sc_new_keeper len (fun cdv A outer s H E hR => have hr := hR.room2; (pss3_cons (ps3_set (i := 1) sc_new_keeper.nd rfl (by first | exact Or.inl rfl | exact Or.inr rfl) (pe3_make T.K_Keeper (by decide) G_Keeper__init ⟨h_Keeper__init, hR⟩ (by rfl) T.g_Keeper T.B_Keeper__init (pa3_cons (pe3_kst ⟨_, T.m_compute, .ref _, rfl, fun _ => rref⟩ (by rfl)) pa3_nil))) (pss3_cons (ps3_expr (pe3_met T.L_Keeper T.M_Keeper_put (by decide +kernel) G_Keeper_put (hR.mono h_Keeper_put) T.B_Keeper_put (pe3_var (pv 1)) (pa3_cons (pe3_tup (pa3_cons (pe3_str (l := [109, 111, 100, 117, 108, 101, 115]) (by decide +kernel)) pa3_nil)) (pa3_cons (pe3_bty b_tuple (by rfl) T.b_tuple (by decide +kernel) (pa3_cons (pe3_blt (b_sortedS rfl) (by rfl) T.b_sorted (by decide +kernel) (pa3_cons (pe3_var (pv 0)) pa3_nil)) pa3_nil)) pa3_nil)))) (pss3_cons (ps3_for (passes_of rfl) rfl (pi3_val (pe3_blt (b_sortedS rfl) (by rfl) T.b_sorted (by decide +kernel) (pa3_cons (pe3_var (pv 0)) pa3_nil))) (pg3_name (i := 2) sc_new_keeper.nd rfl (by first | exact Or.inl rfl | exact Or.inr rfl)) (pss3_one (ps3_expr (pe3_met T.L_Keeper T.M_Keeper_put (by decide +kernel) G_Keeper_put (hR.mono h_Keeper_put) T.B_Keeper_put (pe3_var (pv 1)) (pa3_cons (pe3_tup (pa3_cons (pe3_str (l := [116, 101, 120, 116]) (by decide +kernel)) (pa3_cons (pe3_var (pv 2)) pa3_nil))) (pa3_cons (pe3_ix (x_at (hu_of hr)) (pe3_var (pv 0)) (pe3_var (pv 2)) (fun _ _ => rfl)) pa3_nil)))))) (pss3_one (ps3_ret (pe3_var (pv 1)))))))) vc
theorem ok_Server__init (T : Txt K mg a) {k : Nat} {sp : Sp} {s_need_module : Sp} {k_need_module : Nat} (G_need_module : Ok3 P w K mg base k_need_module a.f_need_module a.x_need_module ["name", "text"] s_need_module) (h_need_module : k_need_module ≤ k) {s_new_keeper : Sp} {k_new_keeper : Nat} (G_new_keeper : Ok3 P w K mg base k_new_keeper a.f_new_keeper a.x_new_keeper ["program"] s_new_keeper) (h_new_keeper : k_new_keeper ≤ k) {s_Keeper_computed : Sp} {k_Keeper_computed : Nat} (G_Keeper_computed : Ok3 P w K mg base k_Keeper_computed a.f_Keeper_computed a.x_Keeper_computed ["self"] s_Keeper_computed) (h_Keeper_computed : k_Keeper_computed ≤ k) (mono : Mono sp) (len : ∀ ws G Q E, sp ws G Q E → ws.length = 2)
    (vc : ∀ ws G Q E, Fgt Q E → sp ws G Q E → rd_Server__init a.C_InvalidEdit a.C_Server a.C_Keeper s_need_module s_new_keeper s_Keeper_computed { nx := fun _ G' => Q .non G', rt := Q, ex := fun _ => E } (startF 3 ws) G) :
    Ok3 P w K mg base (k + 1) a.f_Server__init a.x_Server__init ["self", "program"] sp :=
  ok3 mono T.F_Server__init sc_Server__init len (fun cdv A outer s H E hR => have hr := hR.room2; (pss3_cons (ps3_if (pt3_cmp o_gt (pe3_blt b_len (by rfl) T.b_len (by decide +kernel) (pa3_cons (pe3_var (pv 1)) pa3_nil)) (pe3_kst T.k_MOST_MODULES (by rfl)) (nomark _)) (pss3_one (ps3_raise T.E_InvalidEdit rfl (by rfl))) pss3_nil) (pss3_cons (ps3_lock (ps3_for (passes_of rfl) rfl (pi3_keys (pe3_var (pv 1))) (pg3_name (i := 2) sc_Server__init.nd rfl (by first | exact Or.inl rfl | exact Or.inr rfl)) (pss3_one (ps3_expr (pe3_call G_need_module (hR.mono h_need_module) (by rfl) T.m_need_module T.F_need_module.kp T.B_need_module (pa3_cons (pe3_var (pv 2)) (pa3_cons (pe3_ix (x_at (hu_of hr)) (pe3_var (pv 1)) (pe3_var (pv 2)) (fun _ _ => rfl)) pa3_nil))))))) (pss3_cons (ps3_fld T.L_Server T.N_Server_texts (by decide) (by decide) rfl (pe3_var (pv 0)) (pe3_bty b_dict (by rfl) T.b_dict (by decide +kernel) (pa3_cons (pe3_var (pv 1)) pa3_nil))) (pss3_cons (ps3_fld T.L_Server T.N_Server_keeper (by decide) (by decide) rfl (pe3_var (pv 0)) (pe3_call G_new_keeper (hR.mono h_new_keeper) (by rfl) T.m_new_keeper T.F_new_keeper.kp T.B_new_keeper (pa3_cons (pe3_var (pv 1)) pa3_nil))) (pss3_cons (ps3_expr (pe3_met0 T.L_Keeper T.M_Keeper_computed (by decide +kernel) G_Keeper_computed (hR.mono h_Keeper_computed) T.B_Keeper_computed (pe3_fld T.L_Server T.N_Server_keeper (by decide) rfl (pe3_var (pv 0))))) (pss3_cons (ps3_fld T.L_Server T.N_Server_done (by decide) (by decide) rfl (pe3_var (pv 0)) (pe3_lst pa3_nil)) (pss3_one (ps3_fld T.L_Server T.N_Server_undone (by decide) (by decide) rfl (pe3_var (pv 0)) (pe3_lst pa3_nil)))))))))) vc
theorem ok_Server_modules (T : Txt K mg a) {k : Nat} {sp : Sp} (mono : Mono sp) (len : ∀ ws G Q E, sp ws G Q E → ws.length = 1)
    (vc : ∀ ws G Q E, Fgt Q E → sp ws G Q E → rd_Server_modules a.C_Server { nx := fun _ G' => Q .non G', rt := Q, ex := fun _ => E } (startF 1 ws) G) :
    Ok3 P w K mg base (k + 1) a.f_Server_modules a.x_Server_modules ["self"] sp :=
  ok3 mono T.F_Server_modules sc_Server_modules len (fun cdv A outer s H E hR => have hr := hR.room2; (pss3_one (ps3_ret (pe3_blt (b_sortedS rfl) (by rfl) T.b_sorted (by decide +kernel) (pa3_cons (pe3_fld T.L_Server T.N_Server_texts (by decide) rfl (pe3_var (pv 0))) pa3_nil))))) vc
theorem ok_Server_program (T : Txt K mg a) {k : Nat} {sp : Sp} (mono : Mono sp) (len : ∀ ws G Q E, sp ws G Q E → ws.length = 1)
    (vc : ∀ ws G Q E, Fgt Q E → sp ws G Q E → rd_Server_program a.C_Server { nx := fun _ G' => Q .non G', rt := Q, ex := fun _ => E } (startF 1 ws) G) :
    Ok3 P w K mg base (k + 1) a.f_Server_program a.x_Server_program ["self"] sp :=
  ok3 mono T.F_Server_program sc_Server_program len (fun cdv A outer s H E hR => have hr := hR.room2; (pss3_one (ps3_ret (pe3_bty b_dict (by rfl) T.b_dict (by decide +kernel) (pa3_cons (pe3_fld T.L_Server T.N_Server_texts (by decide) rfl (pe3_var (pv 0))) pa3_nil))))) vc
theorem ok_Server_need_file (T : Txt K mg a) {k : Nat} {sp : Sp} (mono : Mono sp) (len : ∀ ws G Q E, sp ws G Q E → ws.length = 2)
    (vc : ∀ ws G Q E, Fgt Q E → sp ws G Q E → rd_Server_need_file a.C_Server a.C_UnknownFile { nx := fun _ G' => Q .non G', rt := Q, ex := fun _ => E } (startF 2 ws) G) :
    Ok3 P w K mg base (k + 1) a.f_Server_need_file a.x_Server_need_file ["self", "module"] sp :=
  ok3 mono T.F_Server_need_file sc_Server_need_file len (fun cdv A outer s H E hR => have hr := hR.room2; (pss3_one (ps3_if (pt3_cmp (o_notinD (by have h := hu65 hr; exact h)) (pe3_var (pv 1)) (pe3_fld T.L_Server T.N_Server_texts (by decide) rfl (pe3_var (pv 0))) (by rfl)) (pss3_one (ps3_raise T.E_UnknownFile rfl (by rfl))) pss3_nil))) vc
theorem ok_Server_forget_steps (T : Txt K mg a) {k : Nat} {sp : Sp} (mono : Mono sp) (len : ∀ ws G Q E, sp ws G Q E → ws.length = 1)
    (vc : ∀ ws G Q E, Fgt Q E → sp ws G Q E → rd_Server_forget_steps a.C_Server { nx := fun _ G' => Q .non G', rt := Q, ex := fun _ => E } (startF 1 ws) G) :
    Ok3 P w K mg base (k + 1) a.f_Server_forget_steps a.x_Server_forget_steps ["self"] sp :=
  ok3 mono T.F_Server_forget_steps sc_Server_forget_steps len (fun cdv A outer s H E hR => have hr := hR.room2; (pss3_cons (ps3_fld T.L_Server T.N_Server_done (by decide) (by decide) rfl (pe3_var (pv 0)) (pe3_lst pa3_nil)) (pss3_one (ps3_fld T.L_Server T.N_Server_undone (by decide) (by decide) rfl (pe3_var (pv 0)) (pe3_lst pa3_nil))))) vc
theorem ok_Server_open_file (T : Txt K mg a) {k : Nat} {sp : Sp} {s_need_module : Sp} {k_need_module : Nat} (G_need_module : Ok3 P w K mg base k_need_module a.f_need_module a.x_need_module ["name", "text"] s_need_module) (h_need_module : k_need_module ≤ k) {s_Keeper_put : Sp} {k_Keeper_put : Nat} (G_Keeper_put : Ok3 P w K mg base k_Keeper_put a.f_Keeper_put a.x_Keeper_put ["self", "key", "value"] s_Keeper_put) (h_Keeper_put : k_Keeper_put ≤ k) {s_Server_modules : Sp} {k_Server_modules : Nat} (G_Server_modules : Ok3 P w K mg base k_Server_modules a.f_Server_modules a.x_Server_modules ["self"] s_Server_modules) (h_Server_modules : k_Server_modules ≤ k) {s_Server_forget_steps : Sp} {k_Server_forget_steps : Nat} (G_Server_forget_steps : Ok3 P w K mg base k_Server_forget_steps a.f_Server_forget_steps a.x_Server_forget_steps ["self"] s_Server_forget_steps) (h_Server_forget_steps : k_Server_forget_steps ≤ k) (mono : Mono sp) (len : ∀ ws G Q E, sp ws G Q E → ws.length = 3)
    (vc : ∀ ws G Q E, Fgt Q E → sp ws G Q E → rd_Server_open_file a.C_Server a.C_FileExists a.C_InvalidEdit a.C_Keeper s_need_module s_Keeper_put s_Server_modules s_Server_forget_steps { nx := fun _ G' => Q .non G', rt := Q, ex := fun _ => E } (startF 3 ws) G) :
    Ok3 P w K mg base (k + 1) a.f_Server_open_file a.x_Server_open_file ["self", "module", "text"] sp :=
  ok3 mono T.F_Server_open_file sc_Server_open_file len (fun cdv A outer s H E hR => have hr := hR.room2; (pss3_cons (ps3_if (pt3_cmp (o_inD (by have h := hu65 hr; exact h)) (pe3_var (pv 1)) (pe3_fld T.L_Server T.N_Server_texts (by decide) rfl (pe3_var (pv 0))) (by rfl)) (pss3_one (ps3_raise T.E_FileExists rfl (by rfl))) pss3_nil) (pss3_cons (ps3_expr (pe3_call G_need_module (hR.mono h_need_module) (by rfl) T.m_need_module T.F_need_module.kp T.B_need_module (pa3_cons (pe3_var (pv 1)) (pa3_cons (pe3_var (pv 2)) pa3_nil)))) (pss3_cons (ps3_if (pt3_cmp o_ge (pe3_blt b_len (by rfl) T.b_len (by decide +kernel) (pa3_cons (pe3_fld T.L_Server T.N_Server_texts (by decide) rfl (pe3_var (pv 0))) pa3_nil)) (pe3_kst T.k_MOST_MODULES (by rfl)) (nomark _)) (pss3_one (ps3_raise T.E_InvalidEdit rfl (by rfl))) pss3_nil) (pss3_cons (ps3_putA (hu_of hr) (pe3_var (pv 2)) (pe3_fld T.L_Server T.N_Server_texts (by decide) rfl (pe3_var (pv 0))) (pe3_var (pv 1))) (pss3_cons (ps3_expr (pe3_met T.L_Keeper T.M_Keeper_put (by decide +kernel) G_Keeper_put (hR.mono h_Keeper_put) T.B_Keeper_put (pe3_fld T.L_Server T.N_Server_keeper (by decide) rfl (pe3_var (pv 0))) (pa3_cons (pe3_tup (pa3_cons (pe3_str (l := [109, 111, 100, 117, 108, 101, 115]) (by decide +kernel)) pa3_nil)) (pa3_cons (pe3_bty b_tuple (by rfl) T.b_tuple (by decide +kernel) (pa3_cons (pe3_met0 T.L_Server T.M_Server_modules (by decide +kernel) G_Server_modules (hR.mono h_Server_modules) T.B_Server_modules (pe3_var (pv 0))) pa3_nil)) pa3_nil)))) (pss3_cons (ps3_expr (pe3_met T.L_Keeper T.M_Keeper_put (by decide +kernel) G_Keeper_put (hR.mono h_Keeper_put) T.B_Keeper_put (pe3_fld T.L_Server T.N_Server_keeper (by decide) rfl (pe3_var (pv 0))) (pa3_cons (pe3_tup (pa3_cons (pe3_str (l := [116, 101, 120, 116]) (by decide +kernel)) (pa3_cons (pe3_var (pv 1)) pa3_nil))) (pa3_cons (pe3_var (pv 2)) pa3_nil)))) (pss3_one (ps3_expr (pe3_met0 T.L_Server T.M_Server_forget_steps (by decide +kernel) G_Server_forget_steps (hR.mono h_Server_forget_steps) T.B_Server_forget_steps (pe3_var (pv 0)))))))))))) vc
theorem ok_Server_set_text (T : Txt K mg a) {k : Nat} {sp : Sp} {s_Keeper_put : Sp} {k_Keeper_put : Nat} (G_Keeper_put : Ok3 P w K mg base k_Keeper_put a.f_Keeper_put a.x_Keeper_put ["self", "key", "value"] s_Keeper_put) (h_Keeper_put : k_Keeper_put ≤ k) (mono : Mono sp) (len : ∀ ws G Q E, sp ws G Q E → ws.length = 3)
    (vc : ∀ ws G Q E, Fgt Q E → sp ws G Q E → rd_Server_set_text a.C_Server a.C_Keeper s_Keeper_put { nx := fun _ G' => Q .non G', rt := Q, ex := fun _ => E } (startF 3 ws) G) :
    Ok3 P w K mg base (k + 1) a.f_Server_set_text a.x_Server_set_text ["self", "module", "text"] sp :=
  ok3 mono T.F_Server_set_text sc_Server_set_text len (fun cdv A outer s H E hR => have hr := hR.room2; (pss3_cons (ps3_putA (hu_of hr) (pe3_var (pv 2)) (pe3_fld T.L_Server T.N_Server_texts (by decide) rfl (pe3_var (pv 0))) (pe3_var (pv 1))) (pss3_one (ps3_expr (pe3_met T.L_Keeper T.M_Keeper_put (by decide +kernel) G_Keeper_put (hR.mono h_Keeper_put) T.B_Keeper_put (pe3_fld T.L_Server T.N_Server_keeper (by decide) rfl (pe3_var (pv 0))) (pa3_cons (pe3_tup (pa3_cons (pe3_str (l := [116, 101, 120, 116]) (by decide +kernel)) (pa3_cons (pe3_var (pv 1)) pa3_nil))) (pa3_cons (pe3_var (pv 2)) pa3_nil))))))) vc
theorem ok_Server_do_step (T : Txt K mg a) {k : Nat} {sp : Sp} {s_inverse : Sp} {k_inverse : Nat} (G_inverse : Ok3 P w K mg base k_inverse a.f_inverse a.x_inverse ["text", "edit"] s_inverse) (h_inverse : k_inverse ≤ k) {s_Server_set_text : Sp} {k_Server_set_text : Nat} (G_Server_set_text : Ok3 P w K mg base k_Server_set_text a.f_Server_set_text a.x_Server_set_text ["self", "module", "text"] s_Server_set_text) (h_Server_set_text : k_Server_set_text ≤ k) {s_apply_edit : Sp} {k_apply_edit : Nat} (G_apply_edit : Ok3 P w K mg base k_apply_edit a.f_apply_edit a.x_apply_edit ["text", "edit"] s_apply_edit) (h_apply_edit : k_apply_edit ≤ k) (mono : Mono sp) (len : ∀ ws G Q E, sp ws G Q E → ws.length = 2)
    (vc : ∀ ws G Q E, Fgt Q E → sp ws G Q E → rd_Server_do_step a.C_Server s_inverse s_Server_set_text s_apply_edit { nx := fun _ G' => Q .non G', rt := Q, ex := fun _ => E } (startF 6 ws) G) :
    Ok3 P w K mg base (k + 1) a.f_Server_do_step a.x_Server_do_step ["self", "edits"] sp :=
  ok3 mono T.F_Server_do_step sc_Server_do_step len (fun cdv A outer s H E hR => have hr := hR.room2; (pss3_cons (ps3_set (i := 2) sc_Server_do_step.nd rfl (by first | exact Or.inl rfl | exact Or.inr rfl) (pe3_lst pa3_nil)) (pss3_cons (ps3_for (passes_of rfl) rfl (pi3_val (pe3_var (pv 1))) (pg3_tup rfl (pgs3_cons (pg3_name (i := 3) sc_Server_do_step.nd rfl (by first | exact Or.inl rfl | exact Or.inr rfl)) (pgs3_cons (pg3_name (i := 4) sc_Server_do_step.nd rfl (by first | exact Or.inl rfl | exact Or.inr rfl)) pgs3_nil))) (pss3_cons (ps3_set (i := 5) sc_Server_do_step.nd rfl (by first | exact Or.inl rfl | exact Or.inr rfl) (pe3_ix (x_at (hu_of hr)) (pe3_fld T.L_Server T.N_Server_texts (by decide) rfl (pe3_var (pv 0))) (pe3_var (pv 3)) (fun _ _ => rfl))) (pss3_cons (ps3_expr (pe3_bm PySem.F.plainAttrs_list PySem.F.slot_list_append PySem.F.type_list_append m_append (pe3_var (pv 2)) (pa3_cons (pe3_tup (pa3_cons (pe3_var (pv 3)) (pa3_cons (pe3_call G_inverse (hR.mono h_inverse) (by rfl) T.m_inverse T.F_inverse.kp T.B_inverse (pa3_cons (pe3_var (pv 5)) (pa3_cons (pe3_var (pv 4)) pa3_nil))) pa3_nil))) pa3_nil))) (pss3_one (ps3_expr (pe3_met T.L_Server T.M_Server_set_text (by decide +kernel) G_Server_set_text (hR.mono h_Server_set_text) T.B_Server_set_text (pe3_var (pv 0)) (pa3_cons (pe3_var (pv 3)) (pa3_cons (pe3_call G_apply_edit (hR.mono h_apply_edit) (by rfl) T.m_apply_edit T.F_apply_edit.kp T.B_apply_edit (pa3_cons (pe3_var (pv 5)) (pa3_cons (pe3_var (pv 4)) pa3_nil))) pa3_nil)))))))) (pss3_one (ps3_ret (pe3_rev (pe3_var (pv 2)))))))) vc
theorem ok_Server_edit (T : Txt K mg a) {k : Nat} {sp : Sp} {s_Server_need_file : Sp} {k_Server_need_file : Nat} (G_Server_need_file : Ok3 P w K mg base k_Server_need_file a.f_Server_need_file a.x_Server_need_file ["self", "module"] s_Server_need_file) (h_Server_need_file : k_Server_need_file ≤ k) {s_apply_edit : Sp} {k_apply_edit : Nat} (G_apply_edit : Ok3 P w K mg base k_apply_edit a.f_apply_edit a.x_apply_edit ["text", "edit"] s_apply_edit) (h_apply_edit : k_apply_edit ≤ k) {s_Server_do_step : Sp} {k_Server_do_step : Nat} (G_Server_do_step : Ok3 P w K mg base k_Server_do_step a.f_Server_do_step a.x_Server_do_step ["self", "edits"] s_Server_do_step) (h_Server_do_step : k_Server_do_step ≤ k) (mono : Mono sp) (len : ∀ ws G Q E, sp ws G Q E → ws.length = 3)
    (vc : ∀ ws G Q E, Fgt Q E → sp ws G Q E → rd_Server_edit a.C_Server s_Server_need_file s_apply_edit s_Server_do_step { nx := fun _ G' => Q .non G', rt := Q, ex := fun _ => E } (startF 3 ws) G) :
    Ok3 P w K mg base (k + 1) a.f_Server_edit a.x_Server_edit ["self", "module", "edit"] sp :=
  ok3 mono T.F_Server_edit sc_Server_edit len (fun cdv A outer s H E hR => have hr := hR.room2; (pss3_cons (ps3_expr (pe3_met T.L_Server T.M_Server_need_file (by decide +kernel) G_Server_need_file (hR.mono h_Server_need_file) T.B_Server_need_file (pe3_var (pv 0)) (pa3_cons (pe3_var (pv 1)) pa3_nil))) (pss3_cons (ps3_expr (pe3_call G_apply_edit (hR.mono h_apply_edit) (by rfl) T.m_apply_edit T.F_apply_edit.kp T.B_apply_edit (pa3_cons (pe3_ix (x_at (hu_of hr)) (pe3_fld T.L_Server T.N_Server_texts (by decide) rfl (pe3_var (pv 0))) (pe3_var (pv 1)) (fun _ _ => rfl)) (pa3_cons (pe3_var (pv 2)) pa3_nil)))) (pss3_cons (ps3_expr (pe3_bm PySem.F.plainAttrs_list PySem.F.slot_list_append PySem.F.type_list_append m_append (pe3_fld T.L_Server T.N_Server_done (by decide) rfl (pe3_var (pv 0))) (pa3_cons (pe3_met T.L_Server T.M_Server_do_step (by decide +kernel) G_Server_do_step (hR.mono h_Server_do_step) T.B_Server_do_step (pe3_var (pv 0)) (pa3_cons (pe3_lst (pa3_cons (pe3_tup (pa3_cons (pe3_var (pv 1)) (pa3_cons (pe3_var (pv 2)) pa3_nil))) pa3_nil)) pa3_nil)) pa3_nil))) (pss3_one (ps3_fld T.L_Server T.N_Server_undone (by decide) (by decide) rfl (pe3_var (pv 0)) (pe3_lst pa3_nil))))))) vc
theorem ok_Server_undo (T : Txt K mg a) {k : Nat} {sp : Sp} {s_Server_do_step : Sp} {k_Server_do_step : Nat} (G_Server_do_step : Ok3 P w K mg base k_Server_do_step a.f_Server_do_step a.x_Server_do_step ["self", "edits"] s_Server_do_step) (h_Server_do_step : k_Server_do_step ≤ k) (mono : Mono sp) (len : ∀ ws G Q E, sp ws G Q E → ws.length = 1)
    (vc : ∀ ws G Q E, Fgt Q E → sp ws G Q E → rd_Server_undo a.C_Server a.C_NothingToUndo s_Server_do_step { nx := fun _ G' => Q .non G', rt := Q, ex := fun _ => E } (startF 1 ws) G) :
    Ok3 P w K mg base (k + 1) a.f_Server_undo a.x_Server_undo ["self"] sp :=
  ok3 mono T.F_Server_undo sc_Server_undo len (fun cdv A outer s H E hR => have hr := hR.room2; (pss3_cons (ps3_if (pt3_not (pt3_tru (pe3_fld T.L_Server T.N_Server_done (by decide) rfl (pe3_var (pv 0))))) (pss3_one (ps3_raise T.E_NothingToUndo rfl (by rfl))) pss3_nil) (pss3_one (ps3_expr (pe3_bm PySem.F.plainAttrs_list PySem.F.slot_list_append PySem.F.type_list_append m_append (pe3_fld T.L_Server T.N_Server_undone (by decide) rfl (pe3_var (pv 0))) (pa3_cons (pe3_met T.L_Server T.M_Server_do_step (by decide +kernel) G_Server_do_step (hR.mono h_Server_do_step) T.B_Server_do_step (pe3_var (pv 0)) (pa3_cons (pe3_bm0 PySem.F.plainAttrs_list PySem.F.slot_list_pop PySem.F.type_list_pop m_pop (pe3_fld T.L_Server T.N_Server_done (by decide) rfl (pe3_var (pv 0)))) pa3_nil)) pa3_nil)))))) vc
theorem ok_Server_redo (T : Txt K mg a) {k : Nat} {sp : Sp} {s_Server_do_step : Sp} {k_Server_do_step : Nat} (G_Server_do_step : Ok3 P w K mg base k_Server_do_step a.f_Server_do_step a.x_Server_do_step ["self", "edits"] s_Server_do_step) (h_Server_do_step : k_Server_do_step ≤ k) (mono : Mono sp) (len : ∀ ws G Q E, sp ws G Q E → ws.length = 1)
    (vc : ∀ ws G Q E, Fgt Q E → sp ws G Q E → rd_Server_redo a.C_Server a.C_NothingToUndo s_Server_do_step { nx := fun _ G' => Q .non G', rt := Q, ex := fun _ => E } (startF 1 ws) G) :
    Ok3 P w K mg base (k + 1) a.f_Server_redo a.x_Server_redo ["self"] sp :=
  ok3 mono T.F_Server_redo sc_Server_redo len (fun cdv A outer s H E hR => have hr := hR.room2; (pss3_cons (ps3_if (pt3_not (pt3_tru (pe3_fld T.L_Server T.N_Server_undone (by decide) rfl (pe3_var (pv 0))))) (pss3_one (ps3_raise T.E_NothingToUndo rfl (by rfl))) pss3_nil) (pss3_one (ps3_expr (pe3_bm PySem.F.plainAttrs_list PySem.F.slot_list_append PySem.F.type_list_append m_append (pe3_fld T.L_Server T.N_Server_done (by decide) rfl (pe3_var (pv 0))) (pa3_cons (pe3_met T.L_Server T.M_Server_do_step (by decide +kernel) G_Server_do_step (hR.mono h_Server_do_step) T.B_Server_do_step (pe3_var (pv 0)) (pa3_cons (pe3_bm0 PySem.F.plainAttrs_list PySem.F.slot_list_pop PySem.F.type_list_pop m_pop (pe3_fld T.L_Server T.N_Server_undone (by decide) rfl (pe3_var (pv 0)))) pa3_nil)) pa3_nil)))))) vc
theorem ok_law_do (T : Txt K mg a) {k : Nat} {sp : Sp} {s_Server_edit : Sp} {k_Server_edit : Nat} (G_Server_edit : Ok3 P w K mg base k_Server_edit a.f_Server_edit a.x_Server_edit ["self", "module", "edit"] s_Server_edit) (h_Server_edit : k_Server_edit ≤ k) {s_Server_undo : Sp} {k_Server_undo : Nat} (G_Server_undo : Ok3 P w K mg base k_Server_undo a.f_Server_undo a.x_Server_undo ["self"] s_Server_undo) (h_Server_undo : k_Server_undo ≤ k) {s_Server_redo : Sp} {k_Server_redo : Nat} (G_Server_redo : Ok3 P w K mg base k_Server_redo a.f_Server_redo a.x_Server_redo ["self"] s_Server_redo) (h_Server_redo : k_Server_redo ≤ k) {s_Server_open_file : Sp} {k_Server_open_file : Nat} (G_Server_open_file : Ok3 P w K mg base k_Server_open_file a.f_Server_open_file a.x_Server_open_file ["self", "module", "text"] s_Server_open_file) (h_Server_open_file : k_Server_open_file ≤ k) (mono : Mono sp) (len : ∀ ws G Q E, sp ws G Q E → ws.length = 2)
    (vc : ∀ ws G Q E, Fgt Q E → sp ws G Q E → rd_law_do a.C_NothingToUndo a.C_InvalidEdit a.C_UnknownFile a.C_Server a.C_ServerError s_Server_edit s_Server_undo s_Server_redo s_Server_open_file { nx := fun _ G' => Q .non G', rt := Q, ex := fun _ => E } (startF 3 ws) G) :
    Ok3 P w K mg base (k + 1) a.f_law_do a.x_law_do ["server", "act"] sp :=
  ok3 mono T.F_law_do sc_law_do len (fun cdv A outer s H E hR => have hr := hR.room2; (pss3_cons (ps3_tryMany (cs := [a.C_NothingToUndo, a.C_InvalidEdit, a.C_UnknownFile]) rfl (by intro c hc C hC; simp only [List.mem_cons, List.not_mem_nil, or_false] at hc hC; rcases hc with rfl | rfl | rfl <;> rcases hC with rfl | rfl | rfl <;> first | exact T.XM_NothingToUndo_NothingToUndo | exact T.XM_NothingToUndo_InvalidEdit | exact T.XM_NothingToUndo_UnknownFile | exact T.XM_InvalidEdit_NothingToUndo | exact T.XM_InvalidEdit_InvalidEdit | exact T.XM_InvalidEdit_UnknownFile | exact T.XM_UnknownFile_NothingToUndo | exact T.XM_UnknownFile_InvalidEdit | exact T.XM_UnknownFile_UnknownFile) rfl rfl (fun pn xe hp => (pss3_one (ps3_if (pt3_cmp (o_eq hr.units) (pe3_ix (x_at (hu_of hr)) (pe3_var (pv 1)) pe3_int (fun _ _ => rfl)) (pe3_str (l := [101, 100, 105, 116]) (by decide +kernel)) (nomark _)) (pss3_one (ps3_expr (pe3_met T.L_Server T.M_Server_edit (by decide +kernel) G_Server_edit (hR.mono h_Server_edit) T.B_Server_edit (pe3_var (pv 0)) (pa3_cons (pe3_ix (x_at (hu_of hr)) (pe3_var (pv 1)) pe3_int (fun _ _ => rfl)) (pa3_cons (pe3_ix (x_at (hu_of hr)) (pe3_var (pv 1)) pe3_int (fun _ _ => rfl)) pa3_nil))))) (pss3_one (ps3_if (pt3_cmp (o_eq hr.units) (pe3_ix (x_at (hu_of hr)) (pe3_var (pv 1)) pe3_int (fun _ _ => rfl)) (pe3_str (l := [117, 110, 100, 111]) (by decide +kernel)) (nomark _)) (pss3_one (ps3_expr (pe3_met0 T.L_Server T.M_Server_undo (by decide +kernel) G_Server_undo (hR.mono h_Server_undo) T.B_Server_undo (pe3_var (pv 0))))) (pss3_one (ps3_if (pt3_cmp (o_eq hr.units) (pe3_ix (x_at (hu_of hr)) (pe3_var (pv 1)) pe3_int (fun _ _ => rfl)) (pe3_str (l := [114, 101, 100, 111]) (by decide +kernel)) (nomark _)) (pss3_one (ps3_expr (pe3_met0 T.L_Server T.M_Server_redo (by decide +kernel) G_Server_redo (hR.mono h_Server_redo) T.B_Server_redo (pe3_var (pv 0))))) (pss3_one (ps3_expr (pe3_met T.L_Server T.M_Server_open_file (by decide +kernel) G_Server_open_file (hR.mono h_Server_open_file) T.B_Server_open_file (pe3_var (pv 0)) (pa3_cons (pe3_ix (x_at (hu_of hr)) (pe3_var (pv 1)) pe3_int (fun _ _ => rfl)) (pa3_cons (pe3_str (l := []) (by decide +kernel)) pa3_nil)))))))))))) (.named T.E_NothingToUndo.mgC (by rfl) (by decide) sc_law_do.nd rfl rfl (fun ae oe pn hz hv hot => (pss3_one (ps3_ret (pe3_if (pt3_tru (pe3_blt (b_isE T.X_NothingToUndo hz hv isC_ref T.J_NothingToUndo_ServerError) (by rfl) T.b_isinstance (by decide +kernel) (pa3_cons (pe3_var (pv 2)) (pa3_cons (pe3_kst ⟨_, T.E_ServerError.mgC, .ref _, rfl, fun _ => rref⟩ (by rfl)) pa3_nil)))) (pe3_str (l := [110, 111, 116, 104, 105, 110, 103]) (by decide +kernel)) (pe3_str (l := [119, 114, 111, 110, 103]) (by decide +kernel)))))) (.bare T.E_InvalidEdit.mgC (by rfl) (by decide) (fun ae oe pn hz hv hot => (pss3_one (ps3_ret (pe3_str (l := [105, 110, 118, 97, 108, 105, 100]) (by decide +kernel))))) (.bare T.E_UnknownFile.mgC (by rfl) (by decide) (fun ae oe pn hz hv hot => (pss3_one (ps3_ret (pe3_str (l := [117, 110, 107, 110, 111, 119, 110]) (by decide +kernel))))) .nil)))) (pss3_one (ps3_ret (pe3_str (l := [100, 111, 110, 101]) (by decide +kernel)))))) vc
theorem ok_law_expected (T : Txt K mg a) {k : Nat} {sp : Sp} (mono : Mono sp) (len : ∀ ws G Q E, sp ws G Q E → ws.length = 2)
    (vc : ∀ ws G Q E, Fgt Q E → sp ws G Q E → rd_law_expected { nx := fun _ G' => Q .non G', rt := Q, ex := fun _ => E } (startF 8 ws) G) :
    Ok3 P w K mg base (k + 1) a.f_law_expected a.x_law_expected ["known", "act"] sp :=
  ok3 mono T.F_law_expected sc_law_expected len (fun cdv A outer s H E hR => have hr := hR.room2; (pss3_cons (ps3_set (i := 2) sc_law_expected.nd rfl (by first | exact Or.inl rfl | exact Or.inr rfl) (pe3_ix (x_at (hu_of hr)) (pe3_dget (hu_of hr) (pe3_var (pv 0)) (pe3_str (l := [112, 97, 115, 116]) (by decide +kernel)) (fun _ _ => rfl)) (pe3_un u_neg pe3_int) (fun _ _ => rfl))) (pss3_cons (ps3_if (pt3_cmp (o_eq hr.units) (pe3_ix (x_at (hu_of hr)) (pe3_var (pv 1)) pe3_int (fun _ _ => rfl)) (pe3_str (l := [117, 110, 100, 111]) (by decide +kernel)) (nomark _)) (pss3_cons (ps3_if (pt3_cmp (o_eq hr.units) (pe3_blt b_len (by rfl) T.b_len (by decide +kernel) (pa3_cons (pe3_dget (hu_of hr) (pe3_var (pv 0)) (pe3_str (l := [112, 97, 115, 116]) (by decide +kernel)) (fun _ _ => rfl)) pa3_nil)) pe3_int (nomark _)) (pss3_one (ps3_ret (pe3_str (l := [110, 111, 116, 104, 105, 110, 103]) (by decide +kernel)))) pss3_nil) (pss3_cons (ps3_expr (pe3_bm PySem.F.plainAttrs_list PySem.F.slot_list_append PySem.F.type_list_append m_append (pe3_dget (hu_of hr) (pe3_var (pv 0)) (pe3_str (l := [102, 117, 116, 117, 114, 101]) (by decide +kernel)) (fun _ _ => rfl)) (pa3_cons (pe3_bm0 PySem.F.plainAttrs_list PySem.F.slot_list_pop PySem.F.type_list_pop m_pop (pe3_dget (hu_of hr) (pe3_var (pv 0)) (pe3_str (l := [112, 97, 115, 116]) (by decide +kernel)) (fun _ _ => rfl))) pa3_nil))) (pss3_one (ps3_ret (pe3_str (l := [100, 111, 110, 101]) (by decide +kernel)))))) pss3_nil) (pss3_cons (ps3_if (pt3_cmp (o_eq hr.units) (pe3_ix (x_at (hu_of hr)) (pe3_var (pv 1)) pe3_int (fun _ _ => rfl)) (pe3_str (l := [114, 101, 100, 111]) (by decide +kernel)) (nomark _)) (pss3_cons (ps3_if (pt3_cmp (o_eqE hr.units) (pe3_dget (hu_of hr) (pe3_var (pv 0)) (pe3_str (l := [102, 117, 116, 117, 114, 101]) (by decide +kernel)) (fun _ _ => rfl)) (pe3_lst pa3_nil) (nomark _)) (pss3_one (ps3_ret (pe3_str (l := [110, 111, 116, 104, 105, 110, 103]) (by decide +kernel)))) pss3_nil) (pss3_cons (ps3_expr (pe3_bm PySem.F.plainAttrs_list PySem.F.slot_list_append PySem.F.type_list_append m_append (pe3_dget (hu_of hr) (pe3_var (pv 0)) (pe3_str (l := [112, 97, 115, 116]) (by decide +kernel)) (fun _ _ => rfl)) (pa3_cons (pe3_bm0 PySem.F.plainAttrs_list PySem.F.slot_list_pop PySem.F.type_list_pop m_pop (pe3_dget (hu_of hr) (pe3_var (pv 0)) (pe3_str (l := [102, 117, 116, 117, 114, 101]) (by decide +kernel)) (fun _ _ => rfl))) pa3_nil))) (pss3_one (ps3_ret (pe3_str (l := [100, 111, 110, 101]) (by decide +kernel)))))) pss3_nil) (pss3_cons (ps3_set (i := 3) sc_law_expected.nd rfl (by first | exact Or.inl rfl | exact Or.inr rfl) (pe3_bty b_dict (by rfl) T.b_dict (by decide +kernel) (pa3_cons (pe3_var (pv 2)) pa3_nil))) (pss3_cons (ps3_if (pt3_cmp (o_eq hr.units) (pe3_ix (x_at (hu_of hr)) (pe3_var (pv 1)) pe3_int (fun _ _ => rfl)) (pe3_str (l := [111, 112, 101, 110]) (by decide +kernel)) (nomark _)) (pss3_cons (ps3_putA (hu_of hr) (pe3_str (l := []) (by decide +kernel)) (pe3_var (pv 3)) (pe3_ix (x_at (hu_of hr)) (pe3_var (pv 1)) pe3_int (fun _ _ => rfl))) (pss3_cons (ps3_dput (hu_of hr) (pe3_var (pv 0)) (pe3_str (l := [112, 97, 115, 116]) (by decide +kernel)) (pe3_lst (pa3_cons (pe3_var (pv 3)) pa3_nil))) (pss3_cons (ps3_dput (hu_of hr) (pe3_var (pv 0)) (pe3_str (l := [102, 117, 116, 117, 114, 101]) (by decide +kernel)) (pe3_lst pa3_nil)) (pss3_one (ps3_ret (pe3_str (l := [100, 111, 110, 101]) (by decide +kernel))))))) pss3_nil) (pss3_cons (ps3_if (pt3_cmp (o_notinD (by have h := hu65 hr; exact h)) (pe3_ix (x_at (hu_of hr)) (pe3_var (pv 1)) pe3_int (fun _ _ => rfl)) (pe3_var (pv 2)) (by rfl)) (pss3_one (ps3_ret (pe3_str (l := [117, 110, 107, 110, 111, 119, 110]) (by decide +kernel)))) pss3_nil) (pss3_cons (ps3_asg (pe3_ix (x_at (hu_of hr)) (pe3_var (pv 1)) pe3_int (fun _ _ => rfl)) (pg3_tup rfl (pgs3_cons (pg3_name (i := 5) sc_law_expected.nd rfl (by first | exact Or.inl rfl | exact Or.inr rfl)) (pgs3_cons (pg3_name (i := 6) sc_law_expected.nd rfl (by first | exact Or.inl rfl | exact Or.inr rfl)) (pgs3_cons (pg3_name (i := 7) sc_law_expected.nd rfl (by first | exact Or.inl rfl | exact Or.inr rfl)) pgs3_nil))))) (pss3_cons (ps3_set (i := 4) sc_law_expected.nd rfl (by first | exact Or.inl rfl | exact Or.inr rfl) (pe3_ix (x_at (hu_of hr)) (pe3_var (pv 2)) (pe3_ix (x_at (hu_of hr)) (pe3_var (pv 1)) pe3_int (fun _ _ => rfl)) (fun _ _ => rfl))) (pss3_cons (ps3_if (pt3_not (pt3_ch3 o_le o_le o_le pe3_int (pe3_var (pv 5)) (pe3_var (pv 6)) (pe3_blt b_len (by rfl) T.b_len (by decide +kernel) (pa3_cons (pe3_var (pv 4)) pa3_nil)))) (pss3_one (ps3_ret (pe3_str (l := [105, 110, 118, 97, 108, 105, 100]) (by decide +kernel)))) pss3_nil) (pss3_cons (ps3_putA (hu_of hr) (pe3_op o_add (pe3_op o_add (pe3_sl (pe3_var (pv 4)) po3_none (po3_some (pe3_var (pv 5)))) (pe3_var (pv 7))) (pe3_sl (pe3_var (pv 4)) (po3_some (pe3_var (pv 6))) po3_none)) (pe3_var (pv 3)) (pe3_ix (x_at (hu_of hr)) (pe3_var (pv 1)) pe3_int (fun _ _ => rfl))) (pss3_cons (ps3_expr (pe3_bm PySem.F.plainAttrs_list PySem.F.slot_list_append PySem.F.type_list_append m_append (pe3_dget (hu_of hr) (pe3_var (pv 0)) (pe3_str (l := [112, 97, 115, 116]) (by decide +kernel)) (fun _ _ => rfl)) (pa3_cons (pe3_var (pv 3)) pa3_nil))) (pss3_cons (ps3_dput (hu_of hr) (pe3_var (pv 0)) (pe3_str (l := [102, 117, 116, 117, 114, 101]) (by decide +kernel)) (pe3_lst pa3_nil)) (pss3_one (ps3_ret (pe3_str (l := [100, 111, 110, 101]) (by decide +kernel))))))))))))))))) vc
theorem ok_law_act (T : Txt K mg a) {k : Nat} {sp : Sp} {s_law_take : Sp} {k_law_take : Nat} (G_law_take : Ok3 P w K mg base k_law_take a.f_law_take a.x_law_take ["tape", "many"] s_law_take) (h_law_take : k_law_take ≤ k) {s_law_edit_of : Sp} {k_law_edit_of : Nat} (G_law_edit_of : Ok3 P w K mg base k_law_edit_of a.f_law_edit_of a.x_law_edit_of ["tape", "text"] s_law_edit_of) (h_law_edit_of : k_law_edit_of ≤ k) (mono : Mono sp) (len : ∀ ws G Q E, sp ws G Q E → ws.length = 2)
    (vc : ∀ ws G Q E, Fgt Q E → sp ws G Q E → rd_law_act s_law_take s_law_edit_of { nx := fun _ G' => Q .non G', rt := Q, ex := fun _ => E } (startF 9 ws) G) :
    Ok3 P w K mg base (k + 1) a.f_law_act a.x_law_act ["tape", "known"] sp :=
  ok3 mono T.F_law_act sc_law_act len (fun cdv A outer s H E hR => have hr := hR.room2; (pss3_cons (ps3_set (i := 2) sc_law_act.nd rfl (by first | exact Or.inl rfl | exact Or.inr rfl) (pe3_ix (x_at (hu_of hr)) (pe3_dget (hu_of hr) (pe3_var (pv 1)) (pe3_str (l := [112, 97, 115, 116]) (by decide +kernel)) (fun _ _ => rfl)) (pe3_un u_neg pe3_int) (fun _ _ => rfl))) (pss3_cons (ps3_set (i := 3) sc_law_act.nd rfl (by first | exact Or.inl rfl | exact Or.inr rfl) (pe3_call G_law_take (hR.mono h_law_take) (by rfl) T.m_law_take T.F_law_take.kp T.B_law_take (pa3_cons (pe3_var (pv 0)) (pa3_cons pe3_int pa3_nil)))) (pss3_cons (ps3_if (PW3.pt (pw3_and (pt3_cmp (o_eq hr.units) (pe3_var (pv 3)) pe3_int (nomark _)) (pw3_and1 (pt3_cmp o_lt (pe3_blt b_len (by rfl) T.b_len (by decide +kernel) (pa3_cons (pe3_var (pv 2)) pa3_nil)) pe3_int (nomark _))))) (pss3_one (ps3_ret (pe3_tup (pa3_cons (pe3_str (l := [111, 112, 101, 110]) (by decide +kernel)) (pa3_cons (pe3_op o_add (pe3_str (l := [109]) (by decide +kernel)) (pe3_bty b_str (by rfl) T.b_str (by decide +kernel) (pa3_cons (pe3_blt b_len (by rfl) T.b_len (by decide +kernel) (pa3_cons (pe3_var (pv 2)) pa3_nil)) pa3_nil))) pa3_nil))))) pss3_nil) (pss3_cons (ps3_if (pt3_cmp o_lt (pe3_var (pv 3)) pe3_int (nomark _)) (pss3_one (ps3_ret (pe3_tup (pa3_cons (pe3_ix (x_at (hu_of hr)) (pe3_lst (pa3_cons (pe3_str (l := [117, 110, 100, 111]) (by decide +kernel)) (pa3_cons (pe3_str (l := [114, 101, 100, 111]) (by decide +kernel)) pa3_nil))) (pe3_op o_div (pe3_call G_law_take (hR.mono h_law_take) (by rfl) T.m_law_take T.F_law_take.kp T.B_law_take (pa3_cons (pe3_var (pv 0)) (pa3_cons pe3_int pa3_nil))) pe3_int) (fun _ _ => rfl)) (pa3_cons (pe3_str (l := []) (by decide +kernel)) pa3_nil))))) pss3_nil) (pss3_cons (ps3_set (i := 4) sc_law_act.nd rfl (by first | exact Or.inl rfl | exact Or.inr rfl) (pe3_ix (x_at (hu_of hr)) (pe3_op o_add (pe3_blt (b_sortedS rfl) (by rfl) T.b_sorted (by decide +kernel) (pa3_cons (pe3_var (pv 2)) pa3_nil)) (pe3_lst (pa3_cons (pe3_str (l := [110, 111, 119, 104, 101, 114, 101]) (by decide +kernel)) pa3_nil))) (pe3_call G_law_take (hR.mono h_law_take) (by rfl) T.m_law_take T.F_law_take.kp T.B_law_take (pa3_cons (pe3_var (pv 0)) (pa3_cons (pe3_op o_add (pe3_blt b_len (by rfl) T.b_len (by decide +kernel) (pa3_cons (pe3_var (pv 2)) pa3_nil)) pe3_int) pa3_nil))) (fun _ _ => rfl))) (pss3_cons (ps3_set (i := 5) sc_law_act.nd rfl (by first | exact Or.inl rfl | exact Or.inr rfl) (pe3_dget2 (hu_of hr) (pe3_var (pv 2)) (pe3_var (pv 4)) (pe3_str (l := []) (by decide +kernel)))) (pss3_cons (ps3_asg (pe3_call G_law_edit_of (hR.mono h_law_edit_of) (by rfl) T.m_law_edit_of T.F_law_edit_of.kp T.B_law_edit_of (pa3_cons (pe3_var (pv 0)) (pa3_cons (pe3_var (pv 5)) pa3_nil))) (pg3_tup rfl (pgs3_cons (pg3_name (i := 6) sc_law_act.nd rfl (by first | exact Or.inl rfl | exact Or.inr rfl)) (pgs3_cons (pg3_name (i := 7) sc_law_act.nd rfl (by first | exact Or.inl rfl | exact Or.inr rfl)) (pgs3_cons (pg3_name (i := 8) sc_law_act.nd rfl (by first | exact Or.inl rfl | exact Or.inr rfl)) pgs3_nil))))) (pss3_cons (ps3_if (pt3_cmp (o_eq hr.units) (pe3_call G_law_take (hR.mono h_law_take) (by rfl) T.m_law_take T.F_law_take.kp T.B_law_take (pa3_cons (pe3_var (pv 0)) (pa3_cons pe3_int pa3_nil))) pe3_int (nomark _)) (pss3_one (ps3_set (i := 7) sc_law_act.nd rfl (by first | exact Or.inl rfl | exact Or.inr rfl) (pe3_op o_add (pe3_blt b_len (by rfl) T.b_len (by decide +kernel) (pa3_cons (pe3_var (pv 5)) pa3_nil)) pe3_int))) pss3_nil) (pss3_one (ps3_ret (pe3_tup (pa3_cons (pe3_str (l := [101, 100, 105, 116]) (by decide +kernel)) (pa3_cons (pe3_var (pv 4)) (pa3_cons (pe3_tup (pa3_cons (pe3_var (pv 6)) (pa3_cons (pe3_var (pv 7)) (pa3_cons (pe3_var (pv 8)) pa3_nil)))) pa3_nil))))))))))))))) vc
theorem ok_law (T : Txt K mg a) {k : Nat} {sp : Sp} {s_law_tape : Sp} {k_law_tape : Nat} (G_law_tape : Ok3 P w K mg base k_law_tape a.f_law_tape a.x_law_tape ["script"] s_law_tape) (h_law_tape : k_law_tape ≤ k) {s_Server__init : Sp} {k_Server__init : Nat} (G_Server__init : Ok3 P w K mg base k_Server__init a.f_Server__init a.x_Server__init ["self", "program"] s_Server__init) (h_Server__init : 26 ≤ k ∧ 2 * k_Server__init + 2 ≤ k) {s_law_take : Sp} {k_law_take : Nat} (G_law_take : Ok3 P w K mg base k_law_take a.f_law_take a.x_law_take ["tape", "many"] s_law_take) (h_law_take : k_law_take ≤ k) {s_law_act : Sp} {k_law_act : Nat} (G_law_act : Ok3 P w K mg base k_law_act a.f_law_act a.x_law_act ["tape", "known"] s_law_act) (h_law_act : k_law_act ≤ k) {s_law_do : Sp} {k_law_do : Nat} (G_law_do : Ok3 P w K mg base k_law_do a.f_law_do a.x_law_do ["server", "act"] s_law_do) (h_law_do : k_law_do ≤ k) {s_law_expected : Sp} {k_law_expected : Nat} (G_law_expected : Ok3 P w K mg base k_law_expected a.f_law_expected a.x_law_expected ["known", "act"] s_law_expected) (h_law_expected : k_law_expected ≤ k) {s_law_same : Sp} {k_law_same : Nat} (G_law_same : Ok3 P w K mg base k_law_same a.f_law_same a.x_law_same ["actual", "expected"] s_law_same) (h_law_same : k_law_same ≤ k) {s_Server_program : Sp} {k_Server_program : Nat} (G_Server_program : Ok3 P w K mg base k_Server_program a.f_Server_program a.x_Server_program ["self"] s_Server_program) (h_Server_program : k_Server_program ≤ k) (mono : Mono sp) (len : ∀ ws G Q E, sp ws G Q E → ws.length = 1)
    (vc : ∀ ws G Q E, Fgt Q E → sp ws G Q E → rd_law a.C_Server s_law_tape s_Server__init s_law_take s_law_act s_law_do s_law_expected s_law_same s_Server_program { nx := fun _ G' => Q .non G', rt := Q, ex := fun _ => E } (startF 7 ws) G) :
    Ok3 P w K mg base (k + 1) a.f_law a.x_law ["script"] sp :=
  ok3 mono T.F_law sc_law len (fun cdv A outer s H E hR => have hr := hR.room2; (pss3_cons (ps3_set (i := 1) sc_law.nd rfl (by first | exact Or.inl rfl | exact Or.inr rfl) (pe3_call G_law_tape (hR.mono h_law_tape) (by rfl) T.m_law_tape T.F_law_tape.kp T.B_law_tape (pa3_cons (pe3_var (pv 0)) pa3_nil))) (pss3_cons (ps3_set (i := 2) sc_law.nd rfl (by first | exact Or.inl rfl | exact Or.inr rfl) (pe3_disp (pps3_cons (pe3_str (l := [109, 48]) (by decide +kernel)) (pe3_str (l := [100, 101, 102, 32, 102, 40, 41, 32, 61, 32, 49, 10]) (by decide +kernel)) (pps3_cons (pe3_str (l := [109, 49]) (by decide +kernel)) (pe3_str (l := [100, 97, 116, 97, 32, 68, 40, 120, 58, 32, 73, 110, 116, 41, 10]) (by decide +kernel)) pps3_nil)) (by rfl) (by rfl) (fun z => nomatch z) (by decide))) (pss3_cons (ps3_set (i := 3) sc_law.nd rfl (by first | exact Or.inl rfl | exact Or.inr rfl) (pe3_make T.K_Server (by decide) G_Server__init ⟨h_Server__init, hR⟩ (by rfl) T.g_Server T.B_Server__init (pa3_cons (pe3_var (pv 2)) pa3_nil))) (pss3_cons (ps3_set (i := 4) sc_law.nd rfl (by first | exact Or.inl rfl | exact Or.inr rfl) (pe3_disp (pps3_cons (pe3_str (l := [112, 97, 115, 116]) (by decide +kernel)) (pe3_lst (pa3_cons (pe3_bty b_dict (by rfl) T.b_dict (by decide +kernel) (pa3_cons (pe3_var (pv 2)) pa3_nil)) pa3_nil)) (pps3_cons (pe3_str (l := [102, 117, 116, 117, 114, 101]) (by decide +kernel)) (pe3_lst pa3_nil) pps3_nil)) (by rfl) (by rfl) (fun z => nomatch z) (by decide))) (pss3_cons (ps3_for (passes_of rfl) rfl (pi3_range1 (by rfl) T.b_range (pa3_cons (pe3_op o_add pe3_int (pe3_call G_law_take (hR.mono h_law_take) (by rfl) T.m_law_take T.F_law_take.kp T.B_law_take (pa3_cons (pe3_var (pv 1)) (pa3_cons pe3_int pa3_nil)))) pa3_nil)) (pg3_name (i := 5) sc_law.nd rfl (by first | exact Or.inl rfl | exact Or.inr rfl)) (pss3_cons (ps3_set (i := 6) sc_law.nd rfl (by first | exact Or.inl rfl | exact Or.inr rfl) (pe3_call G_law_act (hR.mono h_law_act) (by rfl) T.m_law_act T.F_law_act.kp T.B_law_act (pa3_cons (pe3_var (pv 1)) (pa3_cons (pe3_var (pv 4)) pa3_nil)))) (pss3_cons (ps3_if (pt3_cmp (o_ne hr.units) (pe3_call G_law_do (hR.mono h_law_do) (by rfl) T.m_law_do T.F_law_do.kp T.B_law_do (pa3_cons (pe3_var (pv 3)) (pa3_cons (pe3_var (pv 6)) pa3_nil))) (pe3_call G_law_expected (hR.mono h_law_expected) (by rfl) T.m_law_expected T.F_law_expected.kp T.B_law_expected (pa3_cons (pe3_var (pv 4)) (pa3_cons (pe3_var (pv 6)) pa3_nil))) (nomark _)) (pss3_one (ps3_ret pe3_bl)) pss3_nil) (pss3_one (ps3_if (pt3_not (pt3_tru (pe3_call G_law_same (hR.mono h_law_same) (by rfl) T.m_law_same T.F_law_same.kp T.B_law_same (pa3_cons (pe3_met0 T.L_Server T.M_Server_program (by decide +kernel) G_Server_program (hR.mono h_Server_program) T.B_Server_program (pe3_var (pv 3))) (pa3_cons (pe3_ix (x_at (hu_of hr)) (pe3_dget (hu_of hr) (pe3_var (pv 4)) (pe3_str (l := [112, 97, 115, 116]) (by decide +kernel)) (fun _ _ => rfl)) (pe3_un u_neg pe3_int) (fun _ _ => rfl)) pa3_nil))))) (pss3_one (ps3_ret pe3_bl)) pss3_nil))))) (pss3_one (ps3_ret pe3_bl)))))))) vc
end
end L3.Lw

end
section
set_option autoImplicit false
namespace L3.Lw
open PySem PySem.Spec PyProof.Rows L2 L3
theorem ints_rep {K : PySem.W.Frag} {H : Hp} : ∀ ns : List Int, RepL K H (ns.map W.int) (ns.map V.int)
  | [] => .nil
  | n :: r => by
    rw [List.map_cons, List.map_cons]
    exact .cons (by simp only [Rep]) (ints_rep r)
theorem low_law {K : PySem.W.Frag} {H : Hp} {a : Addr} {ns : List Int} (hl : ns.length ≤ 63) (ho : L2.Only H) (hS : SqL K H a (ns.map V.int)) : low K sp_law [V.ref a] H (fun v _ => v = V.bl true) (fun _ _ _ => False) := by
  have fin : ∀ (G : Gh) (x : W), Rep K H x (.ref a) → Rel K H G → scriptW G x ns → low K sp_law [V.ref a] H (fun v _ => v = V.bl true) (fun _ _ _ => False) := fun G x rv r hs =>
    ⟨[x], G, fun w _ => w = .bl true, fun _ _ _ => False, .one rv, r, ⟨ns, ⟨hs, hl⟩, fun _ => rfl⟩, fun v H' w G' _ _ rw hw => by subst hw; exact rep_bl rw, fun _ _ _ _ _ _ _ z => z⟩
  rcases hS with (h | ⟨o, h⟩) | h
  · rcases ho a with z | ⟨o, xs, z⟩ <;> (rw [z] at h; cases h)
  · refine fin (up (fun _ => none) a (.rdl (ns.map W.int))) (.ref a) (by simp only [Rep]) ?_ (.inr ⟨a, rfl, up_same⟩)
    intro b u e
    by_cases hb : b = a
    · subst hb
      rw [up_same] at e
      cases e
      exact ⟨o, _, h, ints_rep ns⟩
    · rw [up_ne hb] at e
      cases e
  · refine fin (fun _ => none) (.kl (ns.map W.int)) ?_ (fun _ _ e => nomatch e) (.inl rfl)
    simp only [Rep]
    exact ⟨a, _, rfl, .inr h, ints_rep ns⟩

theorem ok_never {P : Program} {w : World} {K : PySem.W.Frag} {mg : Str → Option Value} {base : Heap} {f : Addr} {fd : FuncData} {ps : List Str} : Ok3 P w K mg base 0 f fd ps (fun _ _ _ _ => False) where
  len := fun _ _ _ _ h => by
    obtain ⟨_, _, _, _, _, _, z, _⟩ := h
    exact z.elim
  run := fun A stack s H as vs us Q E _ _ _ _ h => by
    obtain ⟨_, _, _, _, _, _, z, _⟩ := h
    exact z.elim
theorem same_ok {P : Program} {w : World} {K : PySem.W.Frag} {mg : Str → Option Value} {base : Heap} {a : Ad} (T : Txt K mg a) : ∀ n, Ok3 P w K mg base (2 * n + 2) a.f_law_same a.x_law_same ["actual", "expected"] (sp_same n)
  | 0 => ok_law_same (k := 1) T (ok_law_is_integer (k := 0) T mono_isint len_isint vc_isint) (Nat.le_refl _) ok_never (Nat.zero_le _) ok_never (Nat.zero_le _) (mono_same 0) (len_same 0) fun ws G Q E fg h => vc_same0 ws G Q E fg _ h _
  | n + 1 => ok_law_same (k := 2 * n + 3) T (ok_law_is_integer (k := 0) T mono_isint len_isint vc_isint) (by omega) (ok_law_same_items (k := 2 * n + 2) T (same_ok T n) (Nat.le_refl _) (mono_items n) (len_items n) (vc_items n)) (Nat.le_refl _) (same_ok T n) (by omega) (mono_same (n + 1)) (len_same (n + 1)) fun ws G Q E fg h => vc_same n ws G Q E fg h

theorem law_ok {P : Program} {w : World} {K : PySem.W.Frag} {mg : Str → Option Value} {base : Heap} {a : Ad} (T : Txt K mg a) : Ok3 P w K mg base 70 a.f_law a.x_law ["script"] sp_law := by
  have gTake := ok_law_take (k := 0) (P := P) (w := w) (base := base) T mono_take len_take vc_take
  have gSnip := ok_law_snippet (k := 1) (P := P) (w := w) (base := base) T gTake (by decide) (mono_draw _) (len_draw _) vc_snippet
  have gEo := ok_law_edit_of (k := 2) (P := P) (w := w) (base := base) T gTake (by decide) gSnip (by decide) mono_eo len_eo vc_eo
  have gAct := ok_law_act (k := 3) (P := P) (w := w) (base := base) T gTake (by decide) gEo (by decide) mono_act len_act vc_act
  have gRun := ok_run_end (k := 0) (P := P) (w := w) (base := base) T mono_run len_run vc_run
  have gTok := ok_token_at (k := 1) (P := P) (w := w) (base := base) T gRun (by decide) mono_tok len_tok vc_tok
  have gBet := ok_tokens_between (k := 2) (P := P) (w := w) (base := base) T gTok (by decide) mono_between len_between vc_between
  have gToks := ok_tokens (k := 3) (P := P) (w := w) (base := base) T gBet (by decide) mono_tokens len_tokens vc_tokens
  have gName := ok_is_name (k := 4) (P := P) (w := w) (base := base) T gToks (by decide) mono_isname len_isname vc_isname
  have gRight := ok_has_right_characters (k := 0) (P := P) (w := w) (base := base) T mono_right len_right vc_right
  have gIsT := ok_is_text (k := 1) (P := P) (w := w) (base := base) T gRight (by decide) mono_istext len_istext vc_istext
  have gApply := ok_apply_edit (k := 1) (P := P) (w := w) (base := base) T gRight (by decide) (mono_apply a.C_InvalidEdit) (len_apply a.C_InvalidEdit) (vc_apply a.C_InvalidEdit)
  have gInv := ok_inverse (k := 2) (P := P) (w := w) (base := base) T gApply (by decide) mono_inv len_inv (vc_inv a.C_InvalidEdit)
  have gNeed := ok_need_module (k := 5) (P := P) (w := w) (base := base) T gName (by decide) gIsT (by decide) mono_needm len_needm (vc_needm a.C_InvalidEdit)
  have gKi := ok_Keeper__init (k := 0) (P := P) (w := w) (base := base) T (mono_Kinit a.C_Keeper) (len_Kinit a.C_Keeper) (vc_Kinit a.C_Keeper)
  have gPut := ok_Keeper_put (k := 0) (P := P) (w := w) (base := base) T (mono_put a.C_Keeper) (len_put a.C_Keeper) (vc_put a.C_Keeper)
  have gComp := ok_Keeper_computed (k := 0) (P := P) (w := w) (base := base) T (mono_comp a.C_Keeper) (len_comp a.C_Keeper) (vc_comp a.C_Keeper)
  have gNewk := ok_new_keeper (k := 26) (P := P) (w := w) (base := base) T gKi (by decide) gPut (by decide) (mono_newk a.C_Keeper a.f_compute) (len_newk a.C_Keeper a.f_compute) (vc_newk a.C_Keeper a.f_compute)
  have gMods := ok_Server_modules (k := 0) (P := P) (w := w) (base := base) T (mono_mods a.C_Server a.C_Keeper a.f_compute) (len_mods a.C_Server a.C_Keeper a.f_compute) (vc_mods a.C_Server a.C_Keeper a.f_compute)
  have gProg := ok_Server_program (k := 0) (P := P) (w := w) (base := base) T (mono_prog a.C_Server a.C_Keeper a.f_compute) (len_prog a.C_Server a.C_Keeper a.f_compute) (vc_prog a.C_Server a.C_Keeper a.f_compute)
  have gNf := ok_Server_need_file (k := 0) (P := P) (w := w) (base := base) T (mono_needf a.C_Server a.C_Keeper a.f_compute a.C_UnknownFile) (len_needf a.C_Server a.C_Keeper a.f_compute a.C_UnknownFile) (vc_needf a.C_Server a.C_Keeper a.f_compute a.C_UnknownFile)
  have gFgt := ok_Server_forget_steps (k := 0) (P := P) (w := w) (base := base) T (mono_fgt a.C_Server a.C_Keeper a.f_compute) (len_fgt a.C_Server a.C_Keeper a.f_compute) (vc_fgt a.C_Server a.C_Keeper a.f_compute)
  have gOpen := ok_Server_open_file (k := 8) (P := P) (w := w) (base := base) T gNeed (by decide) gPut (by decide) gMods (by decide) gFgt (by decide) (mono_open a.C_Server a.C_Keeper a.f_compute) (len_open a.C_Server a.C_Keeper a.f_compute) (vc_open a.C_Server a.C_Keeper a.C_FileExists a.C_InvalidEdit a.f_compute)
  have gSet := ok_Server_set_text (k := 1) (P := P) (w := w) (base := base) T gPut (by decide) (mono_sett a.C_Server a.C_Keeper a.f_compute) (len_sett a.C_Server a.C_Keeper a.f_compute) (vc_sett a.C_Server a.C_Keeper a.f_compute)
  have gDo := ok_Server_do_step (k := 4) (P := P) (w := w) (base := base) T gInv (by decide) gSet (by decide) gApply (by decide) (mono_dost a.C_Server a.C_Keeper a.f_compute) (len_dost a.C_Server a.C_Keeper a.f_compute) (vc_dost a.C_Server a.C_Keeper a.f_compute a.C_InvalidEdit)
  have gEdit := ok_Server_edit (k := 6) (P := P) (w := w) (base := base) T gNf (by decide) gApply (by decide) gDo (by decide) (mono_edit a.C_Server a.C_Keeper a.f_compute a.C_UnknownFile a.C_InvalidEdit) (len_edit a.C_Server a.C_Keeper a.f_compute a.C_UnknownFile a.C_InvalidEdit) (vc_edit a.C_Server a.C_Keeper a.f_compute a.C_UnknownFile a.C_InvalidEdit)
  have gUndo := ok_Server_undo (k := 6) (P := P) (w := w) (base := base) T gDo (by decide) (mono_undo a.C_Server a.C_Keeper a.f_compute a.C_NothingToUndo) (len_undo a.C_Server a.C_Keeper a.f_compute a.C_NothingToUndo) (vc_undo a.C_Server a.C_Keeper a.f_compute a.C_NothingToUndo)
  have gRedo := ok_Server_redo (k := 6) (P := P) (w := w) (base := base) T gDo (by decide) (mono_redo a.C_Server a.C_Keeper a.f_compute a.C_NothingToUndo) (len_redo a.C_Server a.C_Keeper a.f_compute a.C_NothingToUndo) (vc_redo a.C_Server a.C_Keeper a.f_compute a.C_NothingToUndo)
  have gLdo := ok_law_do (k := 10) (P := P) (w := w) (base := base) T gEdit (by decide) gUndo (by decide) gRedo (by decide) gOpen (by decide) (mono_do a.C_Server a.C_Keeper a.f_compute) (len_do a.C_Server a.C_Keeper a.f_compute)
    (vc_do a.C_Server a.C_Keeper a.f_compute a.C_NothingToUndo a.C_InvalidEdit a.C_UnknownFile a.C_ServerError (of_decide_eq_false T.NX_InvalidEdit_NothingToUndo) (of_decide_eq_false T.NX_UnknownFile_NothingToUndo) (of_decide_eq_false T.NX_UnknownFile_InvalidEdit))
  have gExp := ok_law_expected (k := 0) (P := P) (w := w) (base := base) T mono_exp len_exp vc_exp
  have gSi := ok_Server__init (k := 28) (P := P) (w := w) (base := base) T gNeed (by decide) gNewk (by decide) gComp (by decide) (mono_sinit a.C_Server a.C_Keeper a.f_compute) (len_sinit a.C_Server a.C_Keeper a.f_compute) (vc_sinit a.C_Server a.C_Keeper a.C_InvalidEdit a.f_compute)
  exact ok_law (k := 69) T (ok_law_tape (k := 0) T mono_tape len_tape vc_tape) (by decide) gSi (by decide) gTake (by decide) gAct (by decide) gLdo (by decide) gExp (by decide) (same_ok T 1) (by decide) gProg (by decide)
    mono_law len_law (vc_law a.C_Server a.C_Keeper a.f_compute)

set_option maxHeartbeats 0 in
theorem all_mk {l : PySem.W.OpenLaw} {w : World} {K : PySem.W.Frag} {h : Heap} {mg : Str → Option Value} {fa : Addr} (X : K.In h) (G : h.Ns mainGlobals mg) (hfa : mg "law" = some (.ref fa)) (c : SaysX hdFa hdFn K)
    : ∃ fd : FuncData, (∀ (s : Shared) (v : Value), BindsTo s fd ⟨[v], []⟩ [("script", v)]) ∧ ∀ base : Heap, K.In base → base.Ns mainGlobals mg → FnOk l.prog w K mg base (CXM l.prog w) 32 fa fd ["script"] (low K sp_law) := by
  obtain ⟨qa0, qg0, qd0, qo0, qs0, qm0, qk0⟩ := fx_cls (c.fact 0 rfl)
  have qf0x0 := fx_fld (c.fact 1 rfl)
  have qf0x1 := fx_fld (c.fact 2 rfl)
  have qf0x2 := fx_fld (c.fact 3 rfl)
  have qf0x3 := fx_fld (c.fact 4 rfl)
  have qf0x4 := fx_fld (c.fact 5 rfl)
  have qf0x5 := fx_fld (c.fact 6 rfl)
  have qf0x6 := fx_fld (c.fact 7 rfl)
  have qf0x7 := fx_fld (c.fact 8 rfl)
  obtain ⟨qa1, qg1, qd1, qo1, qs1, qm1, qk1⟩ := fx_cls (c.fact 9 rfl)
  have qf1x0 := fx_fld (c.fact 10 rfl)
  have qf1x1 := fx_fld (c.fact 11 rfl)
  have qf1x2 := fx_fld (c.fact 12 rfl)
  have qf1x3 := fx_fld (c.fact 13 rfl)
  obtain ⟨oc_law_tape, o_law_tape, s_law_tape, kv_law_tape, dc_law_tape, pm_law_tape, n_law_tape, cd_law_tape, ct_law_tape, l0, c0⟩ := c.def_ 0 rfl
  have a0 := fx_glo (c.fact 14 rfl)
  have k0 := fx_keep (c.fact 15 rfl)
  obtain ⟨oc_law_take, o_law_take, s_law_take, kv_law_take, dc_law_take, pm_law_take, n_law_take, cd_law_take, ct_law_take, l1, c1⟩ := c.def_ 1 rfl
  have a1 := fx_glo (c.fact 16 rfl)
  have k1 := fx_keep (c.fact 17 rfl)
  obtain ⟨oc_law_is_integer, o_law_is_integer, s_law_is_integer, kv_law_is_integer, dc_law_is_integer, pm_law_is_integer, n_law_is_integer, cd_law_is_integer, ct_law_is_integer, l2, c2⟩ := c.def_ 2 rfl
  have a2 := fx_glo (c.fact 18 rfl)
  have k2 := fx_keep (c.fact 19 rfl)
  obtain ⟨oc_law_same_items, o_law_same_items, s_law_same_items, kv_law_same_items, dc_law_same_items, pm_law_same_items, n_law_same_items, cd_law_same_items, ct_law_same_items, l3, c3⟩ := c.def_ 3 rfl
  have a3 := fx_glo (c.fact 20 rfl)
  have k3 := fx_keep (c.fact 21 rfl)
  obtain ⟨oc_law_same, o_law_same, s_law_same, kv_law_same, dc_law_same, pm_law_same, n_law_same, cd_law_same, ct_law_same, l4, c4⟩ := c.def_ 4 rfl
  have a4 := fx_glo (c.fact 22 rfl)
  have k4 := fx_keep (c.fact 23 rfl)
  obtain ⟨oc_law_snippet, o_law_snippet, s_law_snippet, kv_law_snippet, dc_law_snippet, pm_law_snippet, n_law_snippet, cd_law_snippet, ct_law_snippet, l5, c5⟩ := c.def_ 5 rfl
  have a5 := fx_glo (c.fact 24 rfl)
  have k5 := fx_keep (c.fact 25 rfl)
  obtain ⟨oc_law_edit_of, o_law_edit_of, s_law_edit_of, kv_law_edit_of, dc_law_edit_of, pm_law_edit_of, n_law_edit_of, cd_law_edit_of, ct_law_edit_of, l6, c6⟩ := c.def_ 6 rfl
  have a6 := fx_glo (c.fact 26 rfl)
  have k6 := fx_keep (c.fact 27 rfl)
  obtain ⟨oc_run_end, o_run_end, s_run_end, kv_run_end, dc_run_end, pm_run_end, n_run_end, cd_run_end, ct_run_end, l7, c7⟩ := c.def_ 7 rfl
  have a7 := fx_glo (c.fact 28 rfl)
  have k7 := fx_keep (c.fact 29 rfl)
  obtain ⟨oc_token_at, o_token_at, s_token_at, kv_token_at, dc_token_at, pm_token_at, n_token_at, cd_token_at, ct_token_at, l8, c8⟩ := c.def_ 8 rfl
  have a8 := fx_glo (c.fact 30 rfl)
  have k8 := fx_keep (c.fact 31 rfl)
  obtain ⟨oc_tokens_between, o_tokens_between, s_tokens_between, kv_tokens_between, dc_tokens_between, pm_tokens_between, n_tokens_between, cd_tokens_between, ct_tokens_between, l9, c9⟩ := c.def_ 9 rfl
  have a9 := fx_glo (c.fact 32 rfl)
  have k9 := fx_keep (c.fact 33 rfl)
  obtain ⟨oc_tokens, o_tokens, s_tokens, kv_tokens, dc_tokens, pm_tokens, n_tokens, cd_tokens, ct_tokens, l10, c10⟩ := c.def_ 10 rfl
  have a10 := fx_glo (c.fact 34 rfl)
  have k10 := fx_keep (c.fact 35 rfl)
  obtain ⟨oc_is_name, o_is_name, s_is_name, kv_is_name, dc_is_name, pm_is_name, n_is_name, cd_is_name, ct_is_name, l11, c11⟩ := c.def_ 11 rfl
  have a11 := fx_glo (c.fact 36 rfl)
  have k11 := fx_keep (c.fact 37 rfl)
  obtain ⟨oc_has_right_characters, o_has_right_characters, s_has_right_characters, kv_has_right_characters, dc_has_right_characters, pm_has_right_characters, n_has_right_characters, cd_has_right_characters, ct_has_right_characters, l12, c12⟩ := c.def_ 12 rfl
  have a12 := fx_glo (c.fact 38 rfl)
  have k12 := fx_keep (c.fact 39 rfl)
  obtain ⟨oc_is_text, o_is_text, s_is_text, kv_is_text, dc_is_text, pm_is_text, n_is_text, cd_is_text, ct_is_text, l13, c13⟩ := c.def_ 13 rfl
  have a13 := fx_glo (c.fact 40 rfl)
  have k13 := fx_keep (c.fact 41 rfl)
  obtain ⟨oc_apply_edit, o_apply_edit, s_apply_edit, kv_apply_edit, dc_apply_edit, pm_apply_edit, n_apply_edit, cd_apply_edit, ct_apply_edit, l14, c14⟩ := c.def_ 14 rfl
  have a14 := fx_glo (c.fact 42 rfl)
  have k14 := fx_keep (c.fact 43 rfl)
  obtain ⟨oc_inverse, o_inverse, s_inverse, kv_inverse, dc_inverse, pm_inverse, n_inverse, cd_inverse, ct_inverse, l15, c15⟩ := c.def_ 15 rfl
  have a15 := fx_glo (c.fact 44 rfl)
  have k15 := fx_keep (c.fact 45 rfl)
  obtain ⟨oc_need_module, o_need_module, s_need_module, kv_need_module, dc_need_module, pm_need_module, n_need_module, cd_need_module, ct_need_module, l16, c16⟩ := c.def_ 16 rfl
  have a16 := fx_glo (c.fact 46 rfl)
  have k16 := fx_keep (c.fact 47 rfl)
  obtain ⟨oc_Keeper__init, o_Keeper__init, s_Keeper__init, kv_Keeper__init, dc_Keeper__init, pm_Keeper__init, n_Keeper__init, cd_Keeper__init, ct_Keeper__init, l17, c17⟩ := c.def_ 17 rfl
  obtain ⟨a17, i17⟩ := fx_meth (c.fact 48 rfl)
  have k17 := fx_keep (c.fact 49 rfl)
  obtain ⟨oc_Keeper_put, o_Keeper_put, s_Keeper_put, kv_Keeper_put, dc_Keeper_put, pm_Keeper_put, n_Keeper_put, cd_Keeper_put, ct_Keeper_put, l18, c18⟩ := c.def_ 18 rfl
  obtain ⟨a18, i18⟩ := fx_meth (c.fact 50 rfl)
  have k18 := fx_keep (c.fact 51 rfl)
  obtain ⟨oc_Keeper_computed, o_Keeper_computed, s_Keeper_computed, kv_Keeper_computed, dc_Keeper_computed, pm_Keeper_computed, n_Keeper_computed, cd_Keeper_computed, ct_Keeper_computed, l19, c19⟩ := c.def_ 19 rfl
  obtain ⟨a19, i19⟩ := fx_meth (c.fact 52 rfl)
  have k19 := fx_keep (c.fact 53 rfl)
  obtain ⟨oc_new_keeper, o_new_keeper, s_new_keeper, kv_new_keeper, dc_new_keeper, pm_new_keeper, n_new_keeper, cd_new_keeper, ct_new_keeper, l20, c20⟩ := c.def_ 20 rfl
  have a20 := fx_glo (c.fact 54 rfl)
  have k20 := fx_keep (c.fact 55 rfl)
  obtain ⟨oc_Server__init, o_Server__init, s_Server__init, kv_Server__init, dc_Server__init, pm_Server__init, n_Server__init, cd_Server__init, ct_Server__init, l21, c21⟩ := c.def_ 21 rfl
  obtain ⟨a21, i21⟩ := fx_meth (c.fact 56 rfl)
  have k21 := fx_keep (c.fact 57 rfl)
  obtain ⟨oc_Server_modules, o_Server_modules, s_Server_modules, kv_Server_modules, dc_Server_modules, pm_Server_modules, n_Server_modules, cd_Server_modules, ct_Server_modules, l22, c22⟩ := c.def_ 22 rfl
  obtain ⟨a22, i22⟩ := fx_meth (c.fact 58 rfl)
  have k22 := fx_keep (c.fact 59 rfl)
  obtain ⟨oc_Server_program, o_Server_program, s_Server_program, kv_Server_program, dc_Server_program, pm_Server_program, n_Server_program, cd_Server_program, ct_Server_program, l23, c23⟩ := c.def_ 23 rfl
  obtain ⟨a23, i23⟩ := fx_meth (c.fact 60 rfl)
  have k23 := fx_keep (c.fact 61 rfl)
  obtain ⟨oc_Server_need_file, o_Server_need_file, s_Server_need_file, kv_Server_need_file, dc_Server_need_file, pm_Server_need_file, n_Server_need_file, cd_Server_need_file, ct_Server_need_file, l24, c24⟩ := c.def_ 24 rfl
  obtain ⟨a24, i24⟩ := fx_meth (c.fact 62 rfl)
  have k24 := fx_keep (c.fact 63 rfl)
  obtain ⟨oc_Server_forget_steps, o_Server_forget_steps, s_Server_forget_steps, kv_Server_forget_steps, dc_Server_forget_steps, pm_Server_forget_steps, n_Server_forget_steps, cd_Server_forget_steps, ct_Server_forget_steps, l25, c25⟩ := c.def_ 25 rfl
  obtain ⟨a25, i25⟩ := fx_meth (c.fact 64 rfl)
  have k25 := fx_keep (c.fact 65 rfl)
  obtain ⟨oc_Server_open_file, o_Server_open_file, s_Server_open_file, kv_Server_open_file, dc_Server_open_file, pm_Server_open_file, n_Server_open_file, cd_Server_open_file, ct_Server_open_file, l26, c26⟩ := c.def_ 26 rfl
  obtain ⟨a26, i26⟩ := fx_meth (c.fact 66 rfl)
  have k26 := fx_keep (c.fact 67 rfl)
  obtain ⟨oc_Server_set_text, o_Server_set_text, s_Server_set_text, kv_Server_set_text, dc_Server_set_text, pm_Server_set_text, n_Server_set_text, cd_Server_set_text, ct_Server_set_text, l27, c27⟩ := c.def_ 27 rfl
  obtain ⟨a27, i27⟩ := fx_meth (c.fact 68 rfl)
  have k27 := fx_keep (c.fact 69 rfl)
  obtain ⟨oc_Server_do_step, o_Server_do_step, s_Server_do_step, kv_Server_do_step, dc_Server_do_step, pm_Server_do_step, n_Server_do_step, cd_Server_do_step, ct_Server_do_step, l28, c28⟩ := c.def_ 28 rfl
  obtain ⟨a28, i28⟩ := fx_meth (c.fact 70 rfl)
  have k28 := fx_keep (c.fact 71 rfl)
  obtain ⟨oc_Server_edit, o_Server_edit, s_Server_edit, kv_Server_edit, dc_Server_edit, pm_Server_edit, n_Server_edit, cd_Server_edit, ct_Server_edit, l29, c29⟩ := c.def_ 29 rfl
  obtain ⟨a29, i29⟩ := fx_meth (c.fact 72 rfl)
  have k29 := fx_keep (c.fact 73 rfl)
  obtain ⟨oc_Server_undo, o_Server_undo, s_Server_undo, kv_Server_undo, dc_Server_undo, pm_Server_undo, n_Server_undo, cd_Server_undo, ct_Server_undo, l30, c30⟩ := c.def_ 30 rfl
  obtain ⟨a30, i30⟩ := fx_meth (c.fact 74 rfl)
  have k30 := fx_keep (c.fact 75 rfl)
  obtain ⟨oc_Server_redo, o_Server_redo, s_Server_redo, kv_Server_redo, dc_Server_redo, pm_Server_redo, n_Server_redo, cd_Server_redo, ct_Server_redo, l31, c31⟩ := c.def_ 31 rfl
  obtain ⟨a31, i31⟩ := fx_meth (c.fact 76 rfl)
  have k31 := fx_keep (c.fact 77 rfl)
  obtain ⟨oc_law_do, o_law_do, s_law_do, kv_law_do, dc_law_do, pm_law_do, n_law_do, cd_law_do, ct_law_do, l32, c32⟩ := c.def_ 32 rfl
  have a32 := fx_glo (c.fact 78 rfl)
  have k32 := fx_keep (c.fact 79 rfl)
  obtain ⟨oc_law_expected, o_law_expected, s_law_expected, kv_law_expected, dc_law_expected, pm_law_expected, n_law_expected, cd_law_expected, ct_law_expected, l33, c33⟩ := c.def_ 33 rfl
  have a33 := fx_glo (c.fact 80 rfl)
  have k33 := fx_keep (c.fact 81 rfl)
  obtain ⟨oc_law_act, o_law_act, s_law_act, kv_law_act, dc_law_act, pm_law_act, n_law_act, cd_law_act, ct_law_act, l34, c34⟩ := c.def_ 34 rfl
  have a34 := fx_glo (c.fact 82 rfl)
  have k34 := fx_keep (c.fact 83 rfl)
  obtain ⟨oc_law, o_law, s_law, kv_law, dc_law, pm_law, n_law, cd_law, ct_law, l35, c35⟩ := c.def_ 35 rfl
  have a35 := fx_glo (c.fact 84 rfl)
  have k35 := fx_keep (c.fact 85 rfl)
  have z0 := fx_free (c.fact 86 rfl)
  have z1 := fx_free (c.fact 87 rfl)
  have z2 := fx_free (c.fact 88 rfl)
  have z3 := fx_free (c.fact 89 rfl)
  have z4 := fx_free (c.fact 90 rfl)
  have z5 := fx_free (c.fact 91 rfl)
  have z6 := fx_free (c.fact 92 rfl)
  have z7 := fx_free (c.fact 93 rfl)
  have z8 := fx_free (c.fact 94 rfl)
  have z9 := fx_free (c.fact 95 rfl)
  have z10 := fx_free (c.fact 96 rfl)
  have z11 := fx_free (c.fact 97 rfl)
  obtain ⟨ga0, wx0, gk0, gs0, gt0, we0⟩ := fx_exc (c.fact 98 rfl)
  obtain ⟨ga1, wx1, gk1, gs1, gt1, we1⟩ := fx_exc (c.fact 99 rfl)
  obtain ⟨ga2, wx2, gk2, gs2, gt2, we2⟩ := fx_exc (c.fact 100 rfl)
  obtain ⟨ga3, wx3, gk3, gs3, gt3, we3⟩ := fx_exc (c.fact 101 rfl)
  obtain ⟨ga4, wx4, gk4, gs4, gt4, we4⟩ := fx_exc (c.fact 102 rfl)
  obtain ⟨yg0, yk0, ys0, yd0, ya0, yn0, yt0, ym0⟩ := fx_excX (c.fact 103 rfl)
  have yj0 := fx_kitO (c.fact 104 rfl)
  have an0 := fx_glo (c.fact 105 rfl)
  have yx0 := fx_xm (c.fact 106 rfl)
  have yx1 := fx_xm (c.fact 107 rfl)
  have wnx1 := fx_nx (c.fact 108 rfl)
  have yx2 := fx_xm (c.fact 109 rfl)
  have wnx2 := fx_nx (c.fact 110 rfl)
  have yx3 := fx_xm (c.fact 111 rfl)
  have wnx3 := fx_nx (c.fact 112 rfl)
  have yx4 := fx_xm (c.fact 113 rfl)
  have yx5 := fx_xm (c.fact 114 rfl)
  have wnx5 := fx_nx (c.fact 115 rfl)
  have yx6 := fx_xm (c.fact 116 rfl)
  have wnx6 := fx_nx (c.fact 117 rfl)
  have yx7 := fx_xm (c.fact 118 rfl)
  have wnx7 := fx_nx (c.fact 119 rfl)
  have yx8 := fx_xm (c.fact 120 rfl)
  obtain ⟨v0, w0⟩ := fx_kst (c.fact 121 rfl)
  obtain ⟨v1, w1⟩ := fx_kst (c.fact 122 rfl)
  obtain ⟨v2, w2⟩ := fx_kst (c.fact 123 rfl)
  obtain ⟨v3, w3⟩ := fx_kst (c.fact 124 rfl)
  obtain ⟨v4, w4⟩ := fx_kst (c.fact 125 rfl)
  obtain ⟨v5, w5⟩ := fx_kst (c.fact 126 rfl)
  obtain ⟨v6, w6⟩ := fx_kst (c.fact 127 rfl)
  obtain ⟨v7, w7⟩ := fx_kst (c.fact 128 rfl)
  have e := hfa.symm.trans (PySem.W.mg_of X G a35)
  cases e
  have F0 := fun_mk (st := t_law_tape) l0 c0 k0
  have F1 := fun_mk (st := t_law_take) l1 c1 k1
  have F2 := fun_mk (st := t_law_is_integer) l2 c2 k2
  have F3 := fun_mk (st := t_law_same_items) l3 c3 k3
  have F4 := fun_mk (st := t_law_same) l4 c4 k4
  have F5 := fun_mk (st := t_law_snippet) l5 c5 k5
  have F6 := fun_mk (st := t_law_edit_of) l6 c6 k6
  have F7 := fun_mk (st := t_run_end) l7 c7 k7
  have F8 := fun_mk (st := t_token_at) l8 c8 k8
  have F9 := fun_mk (st := t_tokens_between) l9 c9 k9
  have F10 := fun_mk (st := t_tokens) l10 c10 k10
  have F11 := fun_mk (st := t_is_name) l11 c11 k11
  have F12 := fun_mk (st := t_has_right_characters) l12 c12 k12
  have F13 := fun_mk (st := t_is_text) l13 c13 k13
  have F14 := fun_mk (st := t_apply_edit) l14 c14 k14
  have F15 := fun_mk (st := t_inverse) l15 c15 k15
  have F16 := fun_mk (st := t_need_module) l16 c16 k16
  have F17 := fun_mk (st := t_Keeper__init) l17 c17 k17
  have F18 := fun_mk (st := t_Keeper_put) l18 c18 k18
  have F19 := fun_mk (st := t_Keeper_computed) l19 c19 k19
  have F20 := fun_mk (st := t_new_keeper) l20 c20 k20
  have F21 := fun_mk (st := t_Server__init) l21 c21 k21
  have F22 := fun_mk (st := t_Server_modules) l22 c22 k22
  have F23 := fun_mk (st := t_Server_program) l23 c23 k23
  have F24 := fun_mk (st := t_Server_need_file) l24 c24 k24
  have F25 := fun_mk (st := t_Server_forget_steps) l25 c25 k25
  have F26 := fun_mk (st := t_Server_open_file) l26 c26 k26
  have F27 := fun_mk (st := t_Server_set_text) l27 c27 k27
  have F28 := fun_mk (st := t_Server_do_step) l28 c28 k28
  have F29 := fun_mk (st := t_Server_edit) l29 c29 k29
  have F30 := fun_mk (st := t_Server_undo) l30 c30 k30
  have F31 := fun_mk (st := t_Server_redo) l31 c31 k31
  have F32 := fun_mk (st := t_law_do) l32 c32 k32
  have F33 := fun_mk (st := t_law_expected) l33 c33 k33
  have F34 := fun_mk (st := t_law_act) l34 c34 k34
  have F35 := fun_mk (st := t_law) l35 c35 k35
  have T : Txt K mg ⟨He.ga K "FileExists",
    He.ga K "InvalidEdit",
    He.ga K "Keeper",
    He.ga K "NothingToUndo",
    He.ga K "Server",
    He.ga K "ServerError",
    He.ga K "UnknownFile",
    He.fAd K ("_law_tape", none), PySem.W.fnOf "_law_tape" "_law_tape" (defArgs t_law_tape) (defBody t_law_tape) (defScope t_law_tape) .none kv_law_tape dc_law_tape pm_law_tape n_law_tape cd_law_tape ct_law_tape,
    He.fAd K ("_law_take", none), PySem.W.fnOf "_law_take" "_law_take" (defArgs t_law_take) (defBody t_law_take) (defScope t_law_take) .none kv_law_take dc_law_take pm_law_take n_law_take cd_law_take ct_law_take,
    He.fAd K ("_law_is_integer", none), PySem.W.fnOf "_law_is_integer" "_law_is_integer" (defArgs t_law_is_integer) (defBody t_law_is_integer) (defScope t_law_is_integer) .none kv_law_is_integer dc_law_is_integer pm_law_is_integer n_law_is_integer cd_law_is_integer ct_law_is_integer,
    He.fAd K ("_law_same_items", none), PySem.W.fnOf "_law_same_items" "_law_same_items" (defArgs t_law_same_items) (defBody t_law_same_items) (defScope t_law_same_items) .none kv_law_same_items dc_law_same_items pm_law_same_items n_law_same_items cd_law_same_items ct_law_same_items,
    He.fAd K ("_law_same", none), PySem.W.fnOf "_law_same" "_law_same" (defArgs t_law_same) (defBody t_law_same) (defScope t_law_same) .none kv_law_same dc_law_same pm_law_same n_law_same cd_law_same ct_law_same,
    He.fAd K ("_law_snippet", none), PySem.W.fnOf "_law_snippet" "_law_snippet" (defArgs t_law_snippet) (defBody t_law_snippet) (defScope t_law_snippet) .none kv_law_snippet dc_law_snippet pm_law_snippet n_law_snippet cd_law_snippet ct_law_snippet,
    He.fAd K ("_law_edit_of", none), PySem.W.fnOf "_law_edit_of" "_law_edit_of" (defArgs t_law_edit_of) (defBody t_law_edit_of) (defScope t_law_edit_of) .none kv_law_edit_of dc_law_edit_of pm_law_edit_of n_law_edit_of cd_law_edit_of ct_law_edit_of,
    He.fAd K ("run_end", none), PySem.W.fnOf "run_end" "run_end" (defArgs t_run_end) (defBody t_run_end) (defScope t_run_end) .none kv_run_end dc_run_end pm_run_end n_run_end cd_run_end ct_run_end,
    He.fAd K ("token_at", none), PySem.W.fnOf "token_at" "token_at" (defArgs t_token_at) (defBody t_token_at) (defScope t_token_at) .none kv_token_at dc_token_at pm_token_at n_token_at cd_token_at ct_token_at,
    He.fAd K ("tokens_between", none), PySem.W.fnOf "tokens_between" "tokens_between" (defArgs t_tokens_between) (defBody t_tokens_between) (defScope t_tokens_between) .none kv_tokens_between dc_tokens_between pm_tokens_between n_tokens_between cd_tokens_between ct_tokens_between,
    He.fAd K ("tokens", none), PySem.W.fnOf "tokens" "tokens" (defArgs t_tokens) (defBody t_tokens) (defScope t_tokens) .none kv_tokens dc_tokens pm_tokens n_tokens cd_tokens ct_tokens,
    He.fAd K ("is_name", none), PySem.W.fnOf "is_name" "is_name" (defArgs t_is_name) (defBody t_is_name) (defScope t_is_name) .none kv_is_name dc_is_name pm_is_name n_is_name cd_is_name ct_is_name,
    He.fAd K ("has_right_characters", none), PySem.W.fnOf "has_right_characters" "has_right_characters" (defArgs t_has_right_characters) (defBody t_has_right_characters) (defScope t_has_right_characters) .none kv_has_right_characters dc_has_right_characters pm_has_right_characters n_has_right_characters cd_has_right_characters ct_has_right_characters,
    He.fAd K ("is_text", none), PySem.W.fnOf "is_text" "is_text" (defArgs t_is_text) (defBody t_is_text) (defScope t_is_text) .none kv_is_text dc_is_text pm_is_text n_is_text cd_is_text ct_is_text,
    He.fAd K ("apply_edit", none), PySem.W.fnOf "apply_edit" "apply_edit" (defArgs t_apply_edit) (defBody t_apply_edit) (defScope t_apply_edit) .none kv_apply_edit dc_apply_edit pm_apply_edit n_apply_edit cd_apply_edit ct_apply_edit,
    He.fAd K ("inverse", none), PySem.W.fnOf "inverse" "inverse" (defArgs t_inverse) (defBody t_inverse) (defScope t_inverse) .none kv_inverse dc_inverse pm_inverse n_inverse cd_inverse ct_inverse,
    He.fAd K ("need_module", none), PySem.W.fnOf "need_module" "need_module" (defArgs t_need_module) (defBody t_need_module) (defScope t_need_module) .none kv_need_module dc_need_module pm_need_module n_need_module cd_need_module ct_need_module,
    He.fAd K ("Keeper", some "__init__"), PySem.W.fnOf "__init__" "Keeper.__init__" (defArgs t_Keeper__init) (defBody t_Keeper__init) (defScope t_Keeper__init) .none kv_Keeper__init dc_Keeper__init pm_Keeper__init n_Keeper__init cd_Keeper__init ct_Keeper__init,
    He.fAd K ("Keeper", some "put"), PySem.W.fnOf "put" "Keeper.put" (defArgs t_Keeper_put) (defBody t_Keeper_put) (defScope t_Keeper_put) .none kv_Keeper_put dc_Keeper_put pm_Keeper_put n_Keeper_put cd_Keeper_put ct_Keeper_put,
    He.fAd K ("Keeper", some "computed"), PySem.W.fnOf "computed" "Keeper.computed" (defArgs t_Keeper_computed) (defBody t_Keeper_computed) (defScope t_Keeper_computed) .none kv_Keeper_computed dc_Keeper_computed pm_Keeper_computed n_Keeper_computed cd_Keeper_computed ct_Keeper_computed,
    He.fAd K ("new_keeper", none), PySem.W.fnOf "new_keeper" "new_keeper" (defArgs t_new_keeper) (defBody t_new_keeper) (defScope t_new_keeper) .none kv_new_keeper dc_new_keeper pm_new_keeper n_new_keeper cd_new_keeper ct_new_keeper,
    He.fAd K ("Server", some "__init__"), PySem.W.fnOf "__init__" "Server.__init__" (defArgs t_Server__init) (defBody t_Server__init) (defScope t_Server__init) .none kv_Server__init dc_Server__init pm_Server__init n_Server__init cd_Server__init ct_Server__init,
    He.fAd K ("Server", some "modules"), PySem.W.fnOf "modules" "Server.modules" (defArgs t_Server_modules) (defBody t_Server_modules) (defScope t_Server_modules) .none kv_Server_modules dc_Server_modules pm_Server_modules n_Server_modules cd_Server_modules ct_Server_modules,
    He.fAd K ("Server", some "program"), PySem.W.fnOf "program" "Server.program" (defArgs t_Server_program) (defBody t_Server_program) (defScope t_Server_program) .none kv_Server_program dc_Server_program pm_Server_program n_Server_program cd_Server_program ct_Server_program,
    He.fAd K ("Server", some "need_file"), PySem.W.fnOf "need_file" "Server.need_file" (defArgs t_Server_need_file) (defBody t_Server_need_file) (defScope t_Server_need_file) .none kv_Server_need_file dc_Server_need_file pm_Server_need_file n_Server_need_file cd_Server_need_file ct_Server_need_file,
    He.fAd K ("Server", some "forget_steps"), PySem.W.fnOf "forget_steps" "Server.forget_steps" (defArgs t_Server_forget_steps) (defBody t_Server_forget_steps) (defScope t_Server_forget_steps) .none kv_Server_forget_steps dc_Server_forget_steps pm_Server_forget_steps n_Server_forget_steps cd_Server_forget_steps ct_Server_forget_steps,
    He.fAd K ("Server", some "open_file"), PySem.W.fnOf "open_file" "Server.open_file" (defArgs t_Server_open_file) (defBody t_Server_open_file) (defScope t_Server_open_file) .none kv_Server_open_file dc_Server_open_file pm_Server_open_file n_Server_open_file cd_Server_open_file ct_Server_open_file,
    He.fAd K ("Server", some "set_text"), PySem.W.fnOf "set_text" "Server.set_text" (defArgs t_Server_set_text) (defBody t_Server_set_text) (defScope t_Server_set_text) .none kv_Server_set_text dc_Server_set_text pm_Server_set_text n_Server_set_text cd_Server_set_text ct_Server_set_text,
    He.fAd K ("Server", some "do_step"), PySem.W.fnOf "do_step" "Server.do_step" (defArgs t_Server_do_step) (defBody t_Server_do_step) (defScope t_Server_do_step) .none kv_Server_do_step dc_Server_do_step pm_Server_do_step n_Server_do_step cd_Server_do_step ct_Server_do_step,
    He.fAd K ("Server", some "edit"), PySem.W.fnOf "edit" "Server.edit" (defArgs t_Server_edit) (defBody t_Server_edit) (defScope t_Server_edit) .none kv_Server_edit dc_Server_edit pm_Server_edit n_Server_edit cd_Server_edit ct_Server_edit,
    He.fAd K ("Server", some "undo"), PySem.W.fnOf "undo" "Server.undo" (defArgs t_Server_undo) (defBody t_Server_undo) (defScope t_Server_undo) .none kv_Server_undo dc_Server_undo pm_Server_undo n_Server_undo cd_Server_undo ct_Server_undo,
    He.fAd K ("Server", some "redo"), PySem.W.fnOf "redo" "Server.redo" (defArgs t_Server_redo) (defBody t_Server_redo) (defScope t_Server_redo) .none kv_Server_redo dc_Server_redo pm_Server_redo n_Server_redo cd_Server_redo ct_Server_redo,
    He.fAd K ("_law_do", none), PySem.W.fnOf "_law_do" "_law_do" (defArgs t_law_do) (defBody t_law_do) (defScope t_law_do) .none kv_law_do dc_law_do pm_law_do n_law_do cd_law_do ct_law_do,
    He.fAd K ("_law_expected", none), PySem.W.fnOf "_law_expected" "_law_expected" (defArgs t_law_expected) (defBody t_law_expected) (defScope t_law_expected) .none kv_law_expected dc_law_expected pm_law_expected n_law_expected cd_law_expected ct_law_expected,
    He.fAd K ("_law_act", none), PySem.W.fnOf "_law_act" "_law_act" (defArgs t_law_act) (defBody t_law_act) (defScope t_law_act) .none kv_law_act dc_law_act pm_law_act n_law_act cd_law_act ct_law_act,
    He.fAd K ("law", none), PySem.W.fnOf "law" "law" (defArgs t_law) (defBody t_law) (defScope t_law) .none kv_law dc_law pm_law n_law cd_law ct_law,
    He.ga K "compute"⟩ := {
    m_compute := PySem.W.mg_of X G an0,
    b_abs := PySem.W.mg_none_of X G z0,
    b_bool := PySem.W.mg_none_of X G z1,
    b_dict := PySem.W.mg_none_of X G z2,
    b_int := PySem.W.mg_none_of X G z3,
    b_isinstance := PySem.W.mg_none_of X G z4,
    b_len := PySem.W.mg_none_of X G z5,
    b_list := PySem.W.mg_none_of X G z6,
    b_min := PySem.W.mg_none_of X G z7,
    b_range := PySem.W.mg_none_of X G z8,
    b_sorted := PySem.W.mg_none_of X G z9,
    b_str := PySem.W.mg_none_of X G z10,
    b_tuple := PySem.W.mg_none_of X G z11,
    E_FileExists := ⟨PySem.F.excBase_ValueError, wx0, PySem.W.mg_of X G ga0, gk0, gs0, gt0, we0⟩,
    E_InvalidEdit := ⟨PySem.F.excBase_ValueError, wx1, PySem.W.mg_of X G ga1, gk1, gs1, gt1, we1⟩,
    E_NothingToUndo := ⟨PySem.F.excBase_ValueError, wx2, PySem.W.mg_of X G ga2, gk2, gs2, gt2, we2⟩,
    E_ServerError := ⟨PySem.F.excBase_ValueError, wx3, PySem.W.mg_of X G ga3, gk3, gs3, gt3, we3⟩,
    E_UnknownFile := ⟨PySem.F.excBase_ValueError, wx4, PySem.W.mg_of X G ga4, gk4, gs4, gt4, we4⟩,
    X_NothingToUndo := ⟨yg0, yk0, ys0, yd0, ya0, yn0, yt0, ym0⟩,
    J_NothingToUndo_ServerError := yj0,
    XM_InvalidEdit_InvalidEdit := yx0,
    XM_InvalidEdit_NothingToUndo := yx1,
    NX_InvalidEdit_NothingToUndo := wnx1,
    XM_InvalidEdit_UnknownFile := yx2,
    NX_InvalidEdit_UnknownFile := wnx2,
    XM_NothingToUndo_InvalidEdit := yx3,
    NX_NothingToUndo_InvalidEdit := wnx3,
    XM_NothingToUndo_NothingToUndo := yx4,
    XM_NothingToUndo_UnknownFile := yx5,
    NX_NothingToUndo_UnknownFile := wnx5,
    XM_UnknownFile_InvalidEdit := yx6,
    NX_UnknownFile_InvalidEdit := wnx6,
    XM_UnknownFile_NothingToUndo := yx7,
    NX_UnknownFile_NothingToUndo := wnx7,
    XM_UnknownFile_UnknownFile := yx8,
    k_CHARACTERS := kst_of X G v0 w0,
    k_DIGITS := kst_of X G v1 w1,
    k_LETTERS := kst_of X G v2 w2,
    k_MOST := kst_of X G v3 w3,
    k_MOST_MODULES := kst_of X G v4 w4,
    k_NAME_CHARACTERS := kst_of X G v5 w5,
    k_SIGNS := kst_of X G v6 w6,
    k_WORDS := kst_of X G v7 w7,
    L_Keeper := ⟨qg0, qd0, qo0, qs0⟩,
    g_Keeper := PySem.W.mg_of X G qa0,
    N_Keeper_asked := qf0x0,
    N_Keeper_compute := qf0x1,
    N_Keeper_done := qf0x2,
    N_Keeper_entries := qf0x3,
    N_Keeper_going := qf0x4,
    N_Keeper_inputs := qf0x5,
    N_Keeper_left := qf0x6,
    N_Keeper_revision := qf0x7,
    K_Keeper := ⟨qm0, a17, i17, qk0⟩,
    M_Keeper_computed := ⟨a19, i19, k19⟩,
    M_Keeper_put := ⟨a18, i18, k18⟩,
    L_Server := ⟨qg1, qd1, qo1, qs1⟩,
    g_Server := PySem.W.mg_of X G qa1,
    N_Server_done := qf1x0,
    N_Server_keeper := qf1x1,
    N_Server_texts := qf1x2,
    N_Server_undone := qf1x3,
    K_Server := ⟨qm1, a21, i21, qk1⟩,
    M_Server_do_step := ⟨a28, i28, k28⟩,
    M_Server_edit := ⟨a29, i29, k29⟩,
    M_Server_forget_steps := ⟨a25, i25, k25⟩,
    M_Server_modules := ⟨a22, i22, k22⟩,
    M_Server_need_file := ⟨a24, i24, k24⟩,
    M_Server_open_file := ⟨a26, i26, k26⟩,
    M_Server_program := ⟨a23, i23, k23⟩,
    M_Server_redo := ⟨a31, i31, k31⟩,
    M_Server_set_text := ⟨a27, i27, k27⟩,
    M_Server_undo := ⟨a30, i30, k30⟩,
    m_law_tape := PySem.W.mg_of X G a0,
    F_law_tape := F0,
    B_law_tape := F0.binds (ps := ["script"]) fun _ _ _ _ _ _ us hl => match us, hl with | [_], _ => rfl,
    m_law_take := PySem.W.mg_of X G a1,
    F_law_take := F1,
    B_law_take := F1.binds (ps := ["tape", "many"]) fun _ _ _ _ _ _ us hl => match us, hl with | [_, _], _ => rfl,
    m_law_is_integer := PySem.W.mg_of X G a2,
    F_law_is_integer := F2,
    B_law_is_integer := F2.binds (ps := ["actual"]) fun _ _ _ _ _ _ us hl => match us, hl with | [_], _ => rfl,
    m_law_same_items := PySem.W.mg_of X G a3,
    F_law_same_items := F3,
    B_law_same_items := F3.binds (ps := ["actual", "expected"]) fun _ _ _ _ _ _ us hl => match us, hl with | [_, _], _ => rfl,
    m_law_same := PySem.W.mg_of X G a4,
    F_law_same := F4,
    B_law_same := F4.binds (ps := ["actual", "expected"]) fun _ _ _ _ _ _ us hl => match us, hl with | [_, _], _ => rfl,
    m_law_snippet := PySem.W.mg_of X G a5,
    F_law_snippet := F5,
    B_law_snippet := F5.binds (ps := ["tape"]) fun _ _ _ _ _ _ us hl => match us, hl with | [_], _ => rfl,
    m_law_edit_of := PySem.W.mg_of X G a6,
    F_law_edit_of := F6,
    B_law_edit_of := F6.binds (ps := ["tape", "text"]) fun _ _ _ _ _ _ us hl => match us, hl with | [_, _], _ => rfl,
    m_run_end := PySem.W.mg_of X G a7,
    F_run_end := F7,
    B_run_end := F7.binds (ps := ["text", "start", "allowed"]) fun _ _ _ _ _ _ us hl => match us, hl with | [_, _, _], _ => rfl,
    m_token_at := PySem.W.mg_of X G a8,
    F_token_at := F8,
    B_token_at := F8.binds (ps := ["text", "start"]) fun _ _ _ _ _ _ us hl => match us, hl with | [_, _], _ => rfl,
    m_tokens_between := PySem.W.mg_of X G a9,
    F_tokens_between := F9,
    B_tokens_between := F9.binds (ps := ["text", "start", "end"]) fun _ _ _ _ _ _ us hl => match us, hl with | [_, _, _], _ => rfl,
    m_tokens := PySem.W.mg_of X G a10,
    F_tokens := F10,
    B_tokens := F10.binds (ps := ["text"]) fun _ _ _ _ _ _ us hl => match us, hl with | [_], _ => rfl,
    m_is_name := PySem.W.mg_of X G a11,
    F_is_name := F11,
    B_is_name := F11.binds (ps := ["value"]) fun _ _ _ _ _ _ us hl => match us, hl with | [_], _ => rfl,
    m_has_right_characters := PySem.W.mg_of X G a12,
    F_has_right_characters := F12,
    B_has_right_characters := F12.binds (ps := ["value"]) fun _ _ _ _ _ _ us hl => match us, hl with | [_], _ => rfl,
    m_is_text := PySem.W.mg_of X G a13,
    F_is_text := F13,
    B_is_text := F13.binds (ps := ["value"]) fun _ _ _ _ _ _ us hl => match us, hl with | [_], _ => rfl,
    m_apply_edit := PySem.W.mg_of X G a14,
    F_apply_edit := F14,
    B_apply_edit := F14.binds (ps := ["text", "edit"]) fun _ _ _ _ _ _ us hl => match us, hl with | [_, _], _ => rfl,
    m_inverse := PySem.W.mg_of X G a15,
    F_inverse := F15,
    B_inverse := F15.binds (ps := ["text", "edit"]) fun _ _ _ _ _ _ us hl => match us, hl with | [_, _], _ => rfl,
    m_need_module := PySem.W.mg_of X G a16,
    F_need_module := F16,
    B_need_module := F16.binds (ps := ["name", "text"]) fun _ _ _ _ _ _ us hl => match us, hl with | [_, _], _ => rfl,
    F_Keeper__init := F17,
    B_Keeper__init := F17.binds (ps := ["self", "compute"]) fun _ _ _ _ _ _ us hl => match us, hl with | [_, _], _ => rfl,
    F_Keeper_put := F18,
    B_Keeper_put := F18.binds (ps := ["self", "key", "value"]) fun _ _ _ _ _ _ us hl => match us, hl with | [_, _, _], _ => rfl,
    F_Keeper_computed := F19,
    B_Keeper_computed := F19.binds (ps := ["self"]) fun _ _ _ _ _ _ us hl => match us, hl with | [_], _ => rfl,
    m_new_keeper := PySem.W.mg_of X G a20,
    F_new_keeper := F20,
    B_new_keeper := F20.binds (ps := ["program"]) fun _ _ _ _ _ _ us hl => match us, hl with | [_], _ => rfl,
    F_Server__init := F21,
    B_Server__init := F21.binds (ps := ["self", "program"]) fun _ _ _ _ _ _ us hl => match us, hl with | [_, _], _ => rfl,
    F_Server_modules := F22,
    B_Server_modules := F22.binds (ps := ["self"]) fun _ _ _ _ _ _ us hl => match us, hl with | [_], _ => rfl,
    F_Server_program := F23,
    B_Server_program := F23.binds (ps := ["self"]) fun _ _ _ _ _ _ us hl => match us, hl with | [_], _ => rfl,
    F_Server_need_file := F24,
    B_Server_need_file := F24.binds (ps := ["self", "module"]) fun _ _ _ _ _ _ us hl => match us, hl with | [_, _], _ => rfl,
    F_Server_forget_steps := F25,
    B_Server_forget_steps := F25.binds (ps := ["self"]) fun _ _ _ _ _ _ us hl => match us, hl with | [_], _ => rfl,
    F_Server_open_file := F26,
    B_Server_open_file := F26.binds (ps := ["self", "module", "text"]) fun _ _ _ _ _ _ us hl => match us, hl with | [_, _, _], _ => rfl,
    F_Server_set_text := F27,
    B_Server_set_text := F27.binds (ps := ["self", "module", "text"]) fun _ _ _ _ _ _ us hl => match us, hl with | [_, _, _], _ => rfl,
    F_Server_do_step := F28,
    B_Server_do_step := F28.binds (ps := ["self", "edits"]) fun _ _ _ _ _ _ us hl => match us, hl with | [_, _], _ => rfl,
    F_Server_edit := F29,
    B_Server_edit := F29.binds (ps := ["self", "module", "edit"]) fun _ _ _ _ _ _ us hl => match us, hl with | [_, _, _], _ => rfl,
    F_Server_undo := F30,
    B_Server_undo := F30.binds (ps := ["self"]) fun _ _ _ _ _ _ us hl => match us, hl with | [_], _ => rfl,
    F_Server_redo := F31,
    B_Server_redo := F31.binds (ps := ["self"]) fun _ _ _ _ _ _ us hl => match us, hl with | [_], _ => rfl,
    m_law_do := PySem.W.mg_of X G a32,
    F_law_do := F32,
    B_law_do := F32.binds (ps := ["server", "act"]) fun _ _ _ _ _ _ us hl => match us, hl with | [_, _], _ => rfl,
    m_law_expected := PySem.W.mg_of X G a33,
    F_law_expected := F33,
    B_law_expected := F33.binds (ps := ["known", "act"]) fun _ _ _ _ _ _ us hl => match us, hl with | [_, _], _ => rfl,
    m_law_act := PySem.W.mg_of X G a34,
    F_law_act := F34,
    B_law_act := F34.binds (ps := ["tape", "known"]) fun _ _ _ _ _ _ us hl => match us, hl with | [_, _], _ => rfl,
    m_law := PySem.W.mg_of X G a35,
    F_law := F35,
    B_law := F35.binds (ps := ["script"]) fun _ _ _ _ _ _ us hl => match us, hl with | [_], _ => rfl }
  exact ⟨PySem.W.fnOf "law" "law" (defArgs t_law) (defBody t_law) (defScope t_law) .none kv_law dc_law pm_law n_law cd_law ct_law, fun s v => .of_eq rfl, fun base _ _ => (law_ok T).toOk (by decide) (by decide)⟩
end L3.Lw
end
open PySem PySem.W PySem.Calls PyProof.Rows
set_option maxRecDepth 100000 in
set_option maxHeartbeats 0 in
theorem PySem.Challenge.cw_deepbench_k29_undo_and_redo_holds : PySem.Challenge.rw_deepbench_k29_undo_and_redo.Holds := by
  w_on; o_law
  refine HandSHeadRun.head_any (q := L3.Lw.hdView) (H := L3.Lw.hdHook) (ob := L3.obsT L3.Lw.hdAddr L3.Lw.hdFa L3.Lw.hdFn) (M := 20000)
    (d := HandSHeadRun.topDef L3.Lw.hdRow.prog 139) (loose := L3.Lw.hdLoose) (r := L3.Lw.hdRow) (kwd := [])
    (L3.obsT_eq _ _ _) (by kernel_rfl) (fun s => by kernel_rfl) L3.Lw.hd_run
    (by kernel_rfl) (by kernel_rfl) (by kernel_rfl) (by rfl) (by first | assumption | decide +kernel)
    (by decide +kernel) ⟨rfl, rfl, rfl, rfl, rfl, by decide +kernel⟩ ?hw ?hc
  case hw => w_witness2
  case hc =>
    refine L3.walkX (x := "script") (k := 32) (n := 63) (l := PySem.Challenge.rw_deepbench_k29_undo_and_redo) rfl (by decide) (by kernel_rfl) ⟨rfl, by decide, by decide⟩ fun w mg fa h Y G hmg0 => ?_
    obtain ⟨K, KX, c⟩ := Y
    have hmg : mg ("law" : PySem.Str) = some (.ref fa) := by
      rw [← show (HandSHeadRun.topDef L3.Lw.hdRow.prog 139).name = ("law" : PySem.Str) from by kernel_rfl]
      exact hmg0
    obtain ⟨fd, hb, hF⟩ := L3.Lw.all_mk (l := PySem.Challenge.rw_deepbench_k29_undo_and_redo) (w := w) KX G hmg c
    exact ⟨K, fd, L3.low K L3.Lw.sp_law, KX, hb, fun H a ns hl hO hS => L3.Lw.low_law hl hO hS, hF⟩
