import PyProof.Rows.All
import Wide.All
import OpenK.AllK
import Wide.FinOn
import HandS.HeadHook3
import HandS.ForExc
import HandS.Exc
import HandS.ExcOwn
import HandS.TryOnly
import HandS.ForMost
import HandS.TupAny
import PyProof.StrOps2
import HandS.Text
import HandS.IsInst
import HandS.Deep
import HandS.TupLen
import HandS.RaiseMore
import HandS.AnyAll
import HandS.StrMore
import HandS.ReplaceLit
import HandS.Zip
import HandS.CallLocal
import HandS.DictTup
import HandS.Conv
import KE.KDictLaws
import PyProof.DictMoreH
import HandS.Style
import KE.GoesZip
import KE.GoesMore
import PyProof.SliceStr2
import HandS.Finally
import KE.SortData
import KE.KDictSum
import HandS.ExcIs
import HandS.TupLe
import HandS.WrittenGet
import HandS.Comp
import PySem.Challenge.RW_deepbench_k79_code_texts
set_option Elab.async false
set_option linter.all false
set_option maxRecDepth 100000
section
set_option autoImplicit false
/-! L3.Def: what a piece of Python asks, over values with tuples by value and a heap of what can change. No library is needed here. -/
namespace L3

inductive W where
  | non | bl (b : Bool) | int (i : Int) | str (x : List Nat) | ref (a : Nat) | ty (n : String) | tup (ws : List W) | kl (ws : List W) | ktp (ws : List W)

inductive O where
  | lst (ws : List W)
  | dct (kvs : List (W × W))
  | dtt (kvs : List (W × W))
  | ins (C : Nat) (ns : List (List Nat)) (ws : List W)
  | rdl (ws : List W)
  | exo (C : Nat) (ns : List (List Nat)) (ws : List W)
  | rdc (kvs : List (W × W))
  | rdt (kvs : List (W × W))
abbrev Gh := Nat → Option O
def up (G : Gh) (a : Nat) (o : O) : Gh := fun b => if b = a then some o else G b
@[simp] theorem up_same {G : Gh} {a : Nat} {o : O} : up G a o a = some o := by unfold up; rw [if_pos rfl]
theorem up_ne {G : Gh} {a b : Nat} {o : O} (h : b ≠ a) : up G a o b = G b := by unfold up; rw [if_neg h]
theorem up_ne' {G : Gh} {a b : Nat} {o : O} (h : a ≠ b) : up G a o b = G b := up_ne h.symm
@[simp] theorem up_up {G : Gh} {a : Nat} {o u : O} : up (up G a o) a u = up G a u := by
  funext b; unfold up; split <;> rfl
theorem up_comm {G : Gh} {a b : Nat} {o u : O} (h : a ≠ b) : up (up G a o) b u = up (up G b u) a o := by
  funext c; unfold up; split
  · rename_i e; subst e; rw [if_neg (Ne.symm h)]
  · rfl
theorem up_self {G : Gh} {a : Nat} {o : O} (h : G a = some o) : up G a o = G := by
  funext b; unfold up; split
  · rename_i e; rw [e, h]
  · rfl
/-- every object of G stands in G' -/
def Le (G G' : Gh) : Prop := ∀ a o, G a = some o → G' a = some o
theorem Le.refl {G : Gh} : Le G G := fun _ _ h => h
theorem Le.trans {G G1 G2 : Gh} (a : Le G G1) (b : Le G1 G2) : Le G G2 := fun c o h => b c o (a c o h)
theorem Le.up {G : Gh} {a : Nat} {o : O} (h : G a = none) : Le G (up G a o) := fun b u e => by
  rw [up_ne]; exact e
  rintro rfl; rw [h] at e; cases e
theorem Le.up2 {G G' : Gh} {a : Nat} {o : O} (l : Le G G') : Le (L3.up G a o) (L3.up G' a o) := fun b u e => by
  by_cases hb : b = a
  · subst hb; rw [up_same] at e ⊢; exact e
  · rw [up_ne hb] at e ⊢; exact l b u e
theorem ne_free {G : Gh} {a p : Nat} {o : O} (h : G a = some o) (hp : G p = none) : p ≠ a := by rintro rfl; rw [h] at hp; cases hp
theorem ne_free' {G : Gh} {a p : Nat} {o : O} (h : G a = some o) (hp : G p = none) : a ≠ p := (ne_free h hp).symm
theorem free_up {G : Gh} {a p : Nat} {o : O} (h : up G a o p = none) : p ≠ a ∧ G p = none := by
  by_cases e : p = a
  · subst e; rw [up_same] at h; cases h
  · rw [up_ne e] at h; exact ⟨e, h⟩

/-! ### frames -/
abbrev Fr := List (Option W)
def get : Fr → Nat → Option W
  | [], _ => none
  | o :: _, 0 => o
  | _ :: r, i + 1 => get r i
def put : Fr → Nat → W → Fr
  | [], _, _ => []
  | _ :: r, 0, w => some w :: r
  | o :: r, i + 1, w => o :: put r i w
def startF (n : Nat) (ws : List W) : Fr := ws.map some ++ List.replicate (n - ws.length) none
def del : Fr → Nat → Fr
  | [], _ => []
  | _ :: r, 0 => none :: r
  | o :: r, i + 1 => o :: del r i
def wipe (γ : Fr) : List Nat → Fr
  | [] => γ
  | i :: r => del (wipe γ r) i
@[simp] theorem get_zero {o : Option W} {r : Fr} : get (o :: r) 0 = o := rfl
@[simp] theorem get_succ {o : Option W} {r : Fr} {i : Nat} : get (o :: r) (i + 1) = get r i := rfl
@[simp] theorem put_zero {o : Option W} {r : Fr} {w : W} : put (o :: r) 0 w = some w :: r := rfl
@[simp] theorem put_succ {o : Option W} {r : Fr} {i : Nat} {w : W} : put (o :: r) (i + 1) w = o :: put r i w := rfl
@[simp] theorem del_zero {o : Option W} {r : Fr} : del (o :: r) 0 = none :: r := rfl
@[simp] theorem del_succ {o : Option W} {r : Fr} {i : Nat} : del (o :: r) (i + 1) = o :: del r i := rfl
@[simp] theorem wipe_nil {γ : Fr} : wipe γ [] = γ := rfl
@[simp] theorem wipe_cons {γ : Fr} {i : Nat} {r : List Nat} : wipe γ (i :: r) = del (wipe γ r) i := rfl

/-! ### readings -/
abbrev QV := W → Gh → Prop
abbrev XQ := W → List W → Gh → Prop
abbrev TE := Fr → Gh → XQ → QV → Prop
abbrev TT := Fr → Gh → XQ → (Bool → Gh → Prop) → Prop
abbrev TA := Fr → Gh → XQ → (List W → Gh → Prop) → Prop
structure Ends where
  nx : Fr → Gh → Prop
  rt : QV
  ex : Fr → XQ
  bk : Fr → Gh → Prop := fun _ _ => False
  ct : Fr → Gh → Prop := fun _ _ => False
abbrev TS := Ends → Fr → Gh → Prop
abbrev TG := W → Fr → Gh → (Fr → Gh → Prop) → Prop
abbrev TGs := List W → Fr → Gh → (Fr → Gh → Prop) → Prop
abbrev X0 : XQ := fun _ _ _ => False
abbrev Sp := List W → Gh → QV → XQ → Prop
/-- a promise asks no more of weaker ends -/
def Mono (sp : Sp) : Prop := ∀ ws G Q Q' E E', (∀ w G', Q w G' → Q' w G') → (∀ w es G', E w es G' → E' w es G') → sp ws G Q E → sp ws G Q' E'
/-- what the wanted ends bear: that objects are forgotten -/
structure Fgt (Q : QV) (E : XQ) : Prop where
  rt : ∀ w G G', Le G G' → Q w G → Q w G'
  ex : ∀ w es G G', Le G G' → E w es G → E w es G'
abbrev R1 := W → Gh → QV → Prop
abbrev R2 := W → W → Gh → QV → Prop

@[simp] def eVar (i : Nat) : TE := fun γ G _ Q => match get γ i with | some w => Q w G | none => False
@[simp] def eC (w : W) : TE := fun _ G _ Q => Q w G
@[simp] def eOp (r : R2) (a b : TE) : TE := fun γ G E Q => a γ G E fun x G1 => b γ G1 E fun y G2 => r x y G2 Q
@[simp] def eUn (r : R1) (a : TE) : TE := fun γ G E Q => a γ G E fun x G1 => r x G1 Q
/-- a op1 b op2 c, a op1 b op2 c op3 d -/
@[simp] def eCh (r r' : R2) (a b c : TE) : TE := fun γ G E Q => a γ G E fun x G1 => b γ G1 E fun y G2 => r x y G2 fun z G3 => match z with
  | .bl true => c γ G3 E fun w G4 => r' y w G4 Q
  | .bl false => Q (.bl false) G3
  | _ => False
@[simp] def eCh3 (r r' r'' : R2) (a b c d : TE) : TE := fun γ G E Q => a γ G E fun x G1 => b γ G1 E fun y G2 => r x y G2 fun z G3 => match z with
  | .bl true => c γ G3 E fun w G4 => r' y w G4 fun z' G5 => match z' with
    | .bl true => d γ G5 E fun w' G6 => r'' w w' G6 Q
    | .bl false => Q (.bl false) G5
    | _ => False
  | .bl false => Q (.bl false) G3
  | _ => False
@[simp] def eIf (t : TT) (a b : TE) : TE := fun γ G E Q => t γ G E fun k G1 => if k = true then a γ G1 E Q else b γ G1 E Q
/-- and, or, not as values (of bools) -/
@[simp] def eAnd (a b : TE) : TE := fun γ G E Q => a γ G E fun x G1 => match x with
  | .bl k => if k = true then b γ G1 E Q else Q (.bl false) G1
  | _ => False
@[simp] def eOr (a b : TE) : TE := fun γ G E Q => a γ G E fun x G1 => match x with
  | .bl k => if k = true then Q (.bl true) G1 else b γ G1 E Q
  | _ => False
@[simp] def eNot (a : TE) : TE := fun γ G E Q => a γ G E fun x G1 => match x with
  | .bl k => Q (.bl (!k)) G1
  | _ => False
@[simp] def aNil : TA := fun _ G _ Q => Q [] G
@[simp] def aCons (a : TE) (r : TA) : TA := fun γ G E Q => a γ G E fun x G1 => r γ G1 E fun xs G2 => Q (x :: xs) G2
/-- arguments that are all plain -/
@[simp] def aCs (ws : List W) : TA := fun _ G _ Q => Q ws G
@[simp] def eCall (sp : Sp) (a : TA) : TE := fun γ G E Q => a γ G E fun ws G1 => sp ws G1 Q E
/-- a built-in's call, by values -/
@[simp] def eBlt (r : List W → Gh → QV → Prop) (a : TA) : TE := fun γ G E Q => a γ G E fun ws G1 => r ws G1 Q
/-- o.m(..) of an own class -/
@[simp] def eMeth (C : Nat) (sp : Sp) (o : TE) (a : TA) : TE := fun γ G E Q => o γ G E fun x G1 => match x with
  | .ref p => match G1 p with
    | some (.ins C' _ _) => C' = C ∧ a γ G1 E fun ws G2 => sp (x :: ws) G2 Q E
    | _ => False
  | _ => False
/-- C(..) -/
@[simp] def eMake (C : Nat) (ns : List (List Nat)) (sp : Sp) (a : TA) : TE := fun γ G E Q => a γ G E fun ws G1 => ∀ p, G1 p = none → sp (.ref p :: ws) (up G1 p (.ins C ns [])) (fun v G2 => v = .non ∧ Q (.ref p) G2) E

def SZ : Nat := 16777216
@[simp] theorem SZ_eq : SZ = 16777216 := rfl

/-! tests -/
@[simp] def tV (a : TE) : TT := fun γ G E Q => a γ G E fun x G1 => match x with | .bl k => Q k G1 | _ => False
@[simp] def tAnd (a b : TT) : TT := fun γ G E Q => a γ G E fun k G1 => if k = true then b γ G1 E Q else Q false G1
@[simp] def tOr (a b : TT) : TT := fun γ G E Q => a γ G E fun k G1 => if k = true then Q true G1 else b γ G1 E Q
@[simp] def tNot (a : TT) : TT := fun γ G E Q => a γ G E fun k G1 => Q (!k) G1
/-- the truth of a value -/
@[simp] def truth (x : W) (G : Gh) (Q : Bool → Gh → Prop) : Prop := match x with
  | .non => Q false G
  | .bl k => Q k G
  | .int i => Q (i != 0) G
  | .str l => l.length ≤ SZ ∧ Q (!l.isEmpty) G
  | .tup ws => Q (!ws.isEmpty) G
  | .ref a => match G a with
    | some (.lst ws) => Q (!ws.isEmpty) G
    | some (.rdl ws) => Q (!ws.isEmpty) G
    | some (.dct kvs) => Q (!kvs.isEmpty) G
    | _ => False
  | .ty _ => False
  | .kl _ => False
  | .ktp ws => Q (!ws.isEmpty) G
@[simp] def tTru (a : TE) : TT := fun γ G E Q => a γ G E fun x G1 => truth x G1 Q

/-! ### statements -/
@[simp] def sNext : TS := fun D γ G => D.nx γ G
@[simp] def sSeq (t u : TS) : TS := fun D γ G => t { D with nx := u D } γ G
@[simp] def sBrk : TS := fun D γ G => D.bk γ G
@[simp] def sCnt : TS := fun D γ G => D.ct γ G
@[simp] def sDrop (e : TE) : TS := fun D γ G => e γ G (D.ex γ) fun _ G1 => D.nx γ G1
@[simp] def sRet (e : TE) : TS := fun D γ G => e γ G (D.ex γ) D.rt
@[simp] def sRetN : TS := fun D _ G => D.rt .non G
@[simp] def sIf (c : TT) (t u : TS) : TS := fun D γ G => c γ G (D.ex γ) fun k G1 => if k = true then t D γ G1 else u D γ G1
@[simp] def sSet (i : Nat) (e : TE) : TS := fun D γ G => e γ G (D.ex γ) fun x G1 => D.nx (put γ i x) G1
@[simp] def sAsg (e : TE) (g : TG) : TS := fun D γ G => e γ G (D.ex γ) fun x G1 => g x γ G1 D.nx
@[simp] def sAug (i : Nat) (r : R2) (e : TE) : TS := fun D γ G => match get γ i with
  | some x => e γ G (D.ex γ) fun y G1 => r x y G1 fun z G2 => D.nx (put γ i z) G2
  | none => False
@[simp] def sRaise (t : Fr → Gh → XQ → (W → List W → Gh → Prop) → Prop) : TS := fun D γ G => t γ G (D.ex γ) (D.ex γ)
@[simp] def gName (i : Nat) : TG := fun w γ G Q => Q (put γ i w) G
@[simp] def gNil : TGs := fun ws γ G Q => ws = [] ∧ Q γ G
@[simp] def gCons (t : TG) (u : TGs) : TGs := fun ws γ G Q => match ws with
  | [] => False
  | w :: r => t w γ G fun γ' G' => u r γ' G' Q
@[simp] def gTup (n : Nat) (t : TGs) : TG := fun w γ G Q => match w with
  | .tup ws => ws.length = n ∧ t ws γ G Q
  | .ref a => match G a with
    | some (.lst ws) => ws.length = n ∧ t ws γ G Q
    | _ => False
  | _ => False

/-! ### loops -/
abbrev It := Gh → Option (List W)
abbrev TI := Fr → Gh → XQ → (It → Gh → Prop) → Prop
def forL (J : It) (all : List W) (g : TG) (b : TS) (D : Ends) : List W → Fr → Gh → Prop
  | [], γ, G => J G = some all ∧ D.nx γ G
  | w :: r, γ, G => J G = some all ∧ g w γ G (fun γ' G' => b { D with nx := forL J all g b D r, ct := forL J all g b D r, bk := D.nx } γ' G')
@[simp] theorem forL_nil {J : It} {all : List W} {g : TG} {b : TS} {D : Ends} {γ : Fr} {G : Gh} : forL J all g b D [] γ G = (J G = some all ∧ D.nx γ G) := rfl
@[simp] theorem forL_cons {J : It} {all : List W} {g : TG} {b : TS} {D : Ends} {w : W} {r : List W} {γ : Fr} {G : Gh} : forL J all g b D (w :: r) γ G =
  (J G = some all ∧ g w γ G (fun γ' G' => b { D with nx := forL J all g b D r, ct := forL J all g b D r, bk := D.nx } γ' G')) := rfl
@[simp] def sFor (i : TI) (g : TG) (b : TS) : TS := fun D γ G => i γ G (D.ex γ) fun J G1 => ∃ all, J G1 = some all ∧ forL J all g b D all γ G1
def whileN (c : TT) (b : TS) (D : Ends) : Nat → Fr → Gh → Prop
  | 0, _, _ => False
  | n + 1, γ, G => c γ G (D.ex γ) fun k G1 => if k = true then b { D with nx := whileN c b D n, ct := whileN c b D n, bk := D.nx } γ G1 else D.nx γ G1
theorem whileN_succ {c : TT} {b : TS} {D : Ends} {n : Nat} {γ : Fr} {G : Gh} : whileN c b D (n + 1) γ G =
  c γ G (D.ex γ) fun k G1 => if k = true then b { D with nx := whileN c b D n, ct := whileN c b D n, bk := D.nx } γ G1 else D.nx γ G1 := rfl
@[simp] def sWhile (c : TT) (b : TS) : TS := fun D γ G => ∃ n, whileN c b D n γ G
/-- the items of a value that a for walks -/
@[simp] def items (x : W) : It := fun G => match x with
  | .tup ws => some ws
  | .kl ws => some ws
  | .ktp ws => some ws
  | .str l => some (l.map fun c => W.str [c])
  | .ref a => match G a with
    | some (.lst ws) => some ws
    | some (.rdl ws) => some ws
    | _ => none
  | _ => none
@[simp] def iVal (e : TE) : TI := fun γ G E R => e γ G E fun x G1 => (items x G1).isSome = true ∧ R (items x) G1
def rangeW (lo : Int) (n : Nat) : List W := (List.range n).map fun k : Nat => W.int (lo + (k : Int))
/-- a number that is small enough for range -/
def rngOk (j : Int) : Prop := -(2 ^ 62) ≤ j ∧ j < 2 ^ 62
@[simp] def iRng1 (a : TA) : TI := fun γ G E R => a γ G E fun ws G1 => match ws with
  | [.int j] => rngOk j ∧ R (fun _ => some (rangeW 0 j.toNat)) G1
  | _ => False
@[simp] def iRng2 (a : TA) : TI := fun γ G E R => a γ G E fun ws G1 => match ws with
  | [.int i, .int j] => rngOk i ∧ rngOk j ∧ R (fun _ => some (rangeW i (j - i).toNat)) G1
  | _ => False
/-- [e for g in i if t] -/
def lcL (J : It) (all : List W) (g : TG) (t : TT) (e : TE) (γ : Fr) (D : Nat) (E : XQ) (Q : QV) : List W → List W → Gh → Prop
  | [], acc, G => J G = some all ∧ G D = some (.lst acc) ∧ Q (.ref D) G
  | w :: r, acc, G => J G = some all ∧ G D = some (.lst acc) ∧ g w γ G fun γ2 G2 => t γ2 G2 E fun k G3 =>
      if k = true then e γ2 G3 E fun y G4 => G4 D = some (.lst acc) ∧ acc.length < SZ ∧ lcL J all g t e γ D E Q r (acc ++ [y]) (up G4 D (.lst (acc ++ [y])))
      else lcL J all g t e γ D E Q r acc G3
@[simp] def eLc (i : TI) (g : TG) (t : TT) (e : TE) (vs : List Nat) : TE := fun γ G E Q => i γ G E fun J G1 => ∀ D, G1 D = none → ∃ all, J (up G1 D (.lst [])) = some all ∧
  lcL J all g t e (wipe γ vs) D (fun _ _ _ => False) Q all [] (up G1 D (.lst []))
@[simp] def tYes : TT := fun _ G _ Q => Q true G

/-! ### operations by values -/
def b2n : Bool → Int
  | true => 1
  | false => 0
@[simp] theorem b2n_true : b2n true = 1 := rfl
@[simp] theorem b2n_false : b2n false = 0 := rfl
@[simp] def rAdd : R2 := fun x y G Q => match x with
  | .int i => (match y with | .int j => Q (.int (i + j)) G | .bl b => Q (.int (i + b2n b)) G | _ => False)
  | .str a => (match y with | .str b => a.length + b.length ≤ SZ ∧ Q (.str (a ++ b)) G | _ => False)
  | .tup a => (match y with | .tup b => a.length + b.length ≤ SZ ∧ Q (.tup (a ++ b)) G | _ => False)
  | .ref a => (match y with
    | .ref b => (match G a with
      | some (.lst xs) => (match G b with
        | some (.lst ys) => xs.length + ys.length ≤ SZ ∧ ∀ p, G p = none → Q (.ref p) (up G p (.lst (xs ++ ys)))
        | _ => False)
      | _ => False)
    | _ => False)
  | _ => False
@[simp] def rSub : R2 := fun x y G Q => match x with
  | .int i => (match y with | .int j => Q (.int (i - j)) G | _ => False)
  | _ => False
def mulOk (i j : Int) : Prop := (-(2 ^ 64) < i ∧ i < 2 ^ 64) ∨ (-(2 ^ 64) < j ∧ j < 2 ^ 64)
@[simp] def rMul : R2 := fun x y G Q => match x with
  | .int i => (match y with | .int j => mulOk i j ∧ Q (.int (i * j)) G | _ => False)
  | .str a => (match y with | .int k => 1 ≤ k ∧ k < 1000000 ∧ a.length * k.toNat ≤ 16777216 ∧ Q (.str (List.replicate k.toNat a).flatten) G | _ => False)
  | _ => False
/-- by a positive divisor -/
@[simp] def rMod : R2 := fun x y G Q => match x with
  | .int i => (match y with | .int j => 0 < j ∧ Q (.int (i % j)) G | _ => False)
  | _ => False
@[simp] def rDiv : R2 := fun x y G Q => match x with
  | .int i => (match y with | .int j => 0 < j ∧ j < 1073741824 ∧ Q (.int (i / j)) G | _ => False)
  | _ => False
@[simp] def rNeg : R1 := fun x G Q => match x with | .int i => Q (.int (-i)) G | _ => False
@[simp] def rLt : R2 := fun x y G Q => match x with
  | .int i => (match y with | .int j => Q (.bl (decide (i < j))) G | _ => False)
  | .str a => (match y with | .str b => Q (.bl (decide (a < b))) G | _ => False)
  | _ => False
@[simp] def rLe : R2 := fun x y G Q => match x with
  | .int i => (match y with | .int j => Q (.bl (decide (i ≤ j))) G | _ => False)
  | .str a => (match y with | .str b => Q (.bl (!decide (b < a))) G | _ => False)
  | _ => False
@[simp] def rGt : R2 := fun x y G Q => match x with
  | .int i => (match y with | .int j => Q (.bl (decide (j < i))) G | _ => False)
  | _ => False
@[simp] def rGe : R2 := fun x y G Q => match x with
  | .int i => (match y with | .int j => Q (.bl (decide (j ≤ i))) G | _ => False)
  | _ => False
@[simp] def rIadd : R2 := fun x y G Q => match x with
  | .int i => (match y with | .int j => Q (.int (i + j)) G | _ => False)
  | .str a => (match y with | .str b => a.length + b.length ≤ SZ ∧ Q (.str (a ++ b)) G | _ => False)
  | _ => False
/-- plain data, not too deep -/
def okD : Nat → W → Bool
  | _, .non => true
  | _, .bl _ => true
  | _, .int _ => true
  | _, .str l => l.all fun c => decide (c < 1114112)
  | n + 1, .tup ws => ws.all (okD n)
  | _, _ => false
@[simp] theorem okD_non {n : Nat} : okD n .non = true := by cases n <;> rfl
@[simp] theorem okD_bl {n : Nat} {b : Bool} : okD n (.bl b) = true := by cases n <;> rfl
@[simp] theorem okD_int {n : Nat} {b : Int} : okD n (.int b) = true := by cases n <;> rfl
theorem okD_str {n : Nat} {l : List Nat} : okD n (.str l) = l.all fun c => decide (c < 1114112) := by cases n <;> rfl
@[simp] theorem okD_tup {n : Nat} {ws : List W} : okD (n + 1) (.tup ws) = ws.all (okD n) := rfl
mutual
def weq : W → W → Bool
  | .non, y => (match y with | .non => true | _ => false)
  | .bl a, y => (match y with | .bl b => a == b | .int j => decide (b2n a = j) | _ => false)
  | .int i, y => (match y with | .bl b => decide (i = b2n b) | .int j => decide (i = j) | _ => false)
  | .str a, y => (match y with | .str b => decide (a = b) | _ => false)
  | .tup a, y => (match y with | .tup b => weqL a b | _ => false)
  | .ref _, _ => false
  | .ty _, _ => false
  | .kl _, _ => false
  | .ktp _, _ => false
def weqL : List W → List W → Bool
  | [], ys => ys.isEmpty
  | x :: xs, ys => (match ys with | [] => false | y :: ys => weq x y && weqL xs ys)
end
def DP : Nat := 60
/-- the answer of == by the heap, where there is a rule -/
@[simp] def eqA (x y : W) (G : Gh) (Q : Bool → Prop) : Prop := match x with
  | .ref a => (match y with
    | .ref b => (match G a with
      | some (.lst xs) => (match G b with
        | some (.lst ys) => xs.all (okD DP) = true ∧ ys.all (okD DP) = true ∧ Q (weqL xs ys)
        | _ => False)
      | _ => False)
    | _ => False)
  | .ty _ => False
  | .int i => (match y with | .int j => Q (decide (i = j)) | .ref _ => False | .ty _ => False | y => okD DP y = true ∧ Q (weq (.int i) y))
  | .str a => (match y with | .str b => Q (decide (a = b)) | .ref _ => False | .ty _ => False | y => okD DP (.str a) = true ∧ okD DP y = true ∧ Q (weq (.str a) y))
  | x => (match y with | .ref _ => False | .ty _ => False | y => okD DP x = true ∧ okD DP y = true ∧ Q (weq x y))
@[simp] def rEq : R2 := fun x y G Q => eqA x y G fun k => Q (.bl k) G
@[simp] def rNe : R2 := fun x y G Q => eqA x y G fun k => Q (.bl (!k)) G
def isN : W → Bool
  | .non => true
  | _ => false
@[simp] theorem isN_non : isN .non = true := rfl
@[simp] theorem isN_bl {b : Bool} : isN (.bl b) = false := rfl
@[simp] theorem isN_int {b : Int} : isN (.int b) = false := rfl
@[simp] theorem isN_str {b : List Nat} : isN (.str b) = false := rfl
@[simp] theorem isN_ref {b : Nat} : isN (.ref b) = false := rfl
@[simp] theorem isN_tup {b : List W} : isN (.tup b) = false := rfl
@[simp] theorem isN_ktp {b : List W} : isN (.ktp b) = false := rfl
/-- x is None; x is not None; x is True, False -/
@[simp] def rIs : R2 := fun x y G Q => match y with
  | .non => Q (.bl (isN x)) G
  | _ => False
@[simp] def rIsNot : R2 := fun x y G Q => match y with
  | .non => Q (.bl (!isN x)) G
  | _ => False
/-- neither a tuple nor an object -/
def flatW : W → Bool
  | .non => true
  | .bl _ => true
  | .int _ => true
  | .str _ => true
  | _ => false
@[simp] def rInA (x y : W) (G : Gh) (Q : Bool → Prop) : Prop := match y with
  | .str s => (match x with | .str [c] => Q (decide (c ∈ s)) | _ => False)
  | .tup ws => ((flatW x = true ∧ ws.all flatW = true) ∨ (okD DP x = true ∧ ws.all (okD DP) = true)) ∧ Q (ws.any fun w => weq w x)
  | .ktp ws => (flatW x = true ∧ ws.all flatW = true) ∧ Q (ws.any fun w => weq w x)
  | .ref a => (match G a with
    | some (.lst ws) => okD DP x = true ∧ ws.all (okD DP) = true ∧ Q (ws.any fun w => weq w x)
    | _ => False)
  | _ => False
@[simp] def rIn : R2 := fun x y G Q => rInA x y G fun k => Q (.bl k) G
@[simp] def rNotIn : R2 := fun x y G Q => rInA x y G fun k => Q (.bl (!k)) G

/-- an index as a place among n -/
def ixn (n : Nat) (i : Int) : Option Nat :=
  if 0 ≤ i then (if i.toNat < n then some i.toNat else none) else (if (-i).toNat ≤ n then some (n - (-i).toNat) else none)
def at_ {α : Type} (xs : List α) (i : Int) : Option α := match ixn xs.length i with
  | some j => xs[j]?
  | none => none
/-! dicts -/
mutual
def keq : W → W → Bool
  | .int i, y => (match y with | .int j => decide (i = j) | _ => false)
  | .str a, y => (match y with | .str b => decide (a = b) | _ => false)
  | .tup a, y => (match y with | .tup b => keqL a b | _ => false)
  | .non, _ => false
  | .bl _, _ => false
  | .ref _, _ => false
  | .ty _, _ => false
  | .kl _, _ => false
  | .ktp _, _ => false
def keqL : List W → List W → Bool
  | [], ys => ys.isEmpty
  | x :: xs, ys => (match ys with | [] => false | y :: ys => keq x y && keqL xs ys)
end
def look : List (W × W) → W → Option W
  | [], _ => none
  | p :: r, k => if keq p.1 k = true then some p.2 else look r k
def has (kvs : List (W × W)) (k : W) : Bool := (look kvs k).isSome
def putD (kvs : List (W × W)) (k v : W) : List (W × W) :=
  if has kvs k = true then kvs.map (fun p => if keq p.1 k = true then (p.1, v) else p) else kvs ++ [(k, v)]
def dropD (kvs : List (W × W)) (k : W) : List (W × W) := kvs.filter fun p => !keq p.1 k
/-- a plain key -/
def key1 : W → Bool
  | .int _ => true
  | .str _ => true
  | _ => false
@[simp] theorem key1_int {i : Int} : key1 (.int i) = true := rfl
@[simp] theorem key1_str {i : List Nat} : key1 (.str i) = true := rfl

@[simp] def rIx : R2 := fun x y G Q => match x with
  | .str s => (match y with | .int i => s.length ≤ SZ ∧ (match at_ s i with | some c => Q (.str [c]) G | none => False) | _ => False)
  | .tup ws => (match y with | .int i => (match at_ ws i with | some w => Q w G | none => False) | _ => False)
  | .ktp ws => (match y with | .int i => (match at_ ws i with | some w => Q w G | none => False) | _ => False)
  | .ref a => (match G a with
    | some (.lst ws) => (match y with | .int i => (match at_ ws i with | some w => Q w G | none => False) | _ => False)
    | some (.rdl ws) => (match y with | .int i => (match at_ ws i with | some w => Q w G | none => False) | _ => False)
    | _ => False)
  | _ => False
/-- d[k] of a dict -/
@[simp] def rDget : R2 := fun x y G Q => match x with
  | .ref a => (match G a with
    | some (.dct kvs) => key1 y = true ∧ (match look kvs y with | some v => Q v G | none => False)
    | _ => False)
  | _ => False
/-- d[k] = v: first v, then d, then k -/
@[simp] def sDput (v d k : TE) : TS := fun D γ G => v γ G (D.ex γ) fun z G1 => d γ G1 (D.ex γ) fun x G2 => k γ G2 (D.ex γ) fun y G3 => match x with
  | .ref a => (match G3 a with
    | some (.dct kvs) => key1 y = true ∧ kvs.length < SZ ∧ D.nx γ (up G3 a (.dct (putD kvs y z)))
    | _ => False)
  | _ => False
/-- a display of a dict with plain keys -/
def pairsD : List (TE × TE) → Fr → Gh → XQ → (List (W × W) → Gh → Prop) → Prop
  | [], _, G, _, Q => Q [] G
  | (k, v) :: r, γ, G, E, Q => k γ G E fun x G1 => v γ G1 E fun y G2 => pairsD r γ G2 E fun ps G3 => Q ((x, y) :: ps) G3
def mergeD (kvs : List (W × W)) : List (W × W) → List (W × W)
  | [] => kvs
  | p :: r => mergeD (putD kvs p.1 p.2) r
@[simp] def eDnew : TE := fun _ G _ Q => ∀ p, G p = none → Q (.ref p) (up G p (.dct []))
@[simp] def eDict (ps : List (TE × TE)) : TE := fun γ G E Q => ∀ p, G p = none → pairsD ps γ (up G p (.dct [])) E fun kvs G2 =>
  G2 p = some (.dct []) ∧ kvs.all (fun q => key1 q.1) = true ∧ kvs.length ≤ 15 ∧ Q (.ref p) (up G2 p (.dct (mergeD [] kvs)))

/-! lists, tuples, slices -/
@[simp] def eTup (a : TA) : TE := fun γ G E Q => a γ G E fun ws G1 => ws.length ≤ SZ ∧ Q (.tup ws) G1
@[simp] def eLst (a : TA) : TE := fun γ G E Q => a γ G E fun ws G1 => ws.length ≤ SZ ∧ ∀ p, G1 p = none → Q (.ref p) (up G1 p (.lst ws))
/-- a slice's bound as a place among n -/
def clip (n : Nat) (i : Int) : Nat := if 0 ≤ i then min i.toNat n else n - (-i).toNat
abbrev TO := Fr → Gh → XQ → (Option Int → Gh → Prop) → Prop
@[simp] def oNo : TO := fun _ G _ Q => Q none G
@[simp] def oPart (a : TE) : TO := fun γ G E Q => a γ G E fun x G1 => match x with | .int i => Q (some i) G1 | _ => False
def lo_ (n : Nat) : Option Int → Nat
  | none => 0
  | some i => clip n i
def hi_ (n : Nat) : Option Int → Nat
  | none => n
  | some i => clip n i
def cut {α : Type} (xs : List α) (lo hi : Option Int) : List α := (xs.drop (lo_ xs.length lo)).take (hi_ xs.length hi - lo_ xs.length lo)
@[simp] def rSl (x : W) (lo hi : Option Int) (G : Gh) (Q : QV) : Prop := match x with
  | .str s => s.length ≤ SZ ∧ Q (.str (cut s lo hi)) G
  | .tup ws => Q (.tup (cut ws lo hi)) G
  | .ref a => (match G a with
    | some (.lst ws) => ∀ p, G p = none → Q (.ref p) (up G p (.lst (cut ws lo hi)))
    | _ => False)
  | _ => False
@[simp] def eSl (e : TE) (lo hi : TO) : TE := fun γ G E Q => e γ G E fun x G1 => lo γ G1 E fun i G2 => hi γ G2 E fun j G3 => rSl x i j G3 Q
/-! built-ins -/
@[simp] def bLen (ws : List W) (G : Gh) (Q : QV) : Prop := match ws with
  | [.str s] => s.length ≤ SZ ∧ Q (.int s.length) G
  | [.tup t] => Q (.int t.length) G
  | [.ktp t] => Q (.int t.length) G
  | [.ref a] => (match G a with
    | some (.lst t) => Q (.int t.length) G
    | some (.rdl t) => Q (.int t.length) G
    | some (.dct t) => Q (.int t.length) G
    | some (.dtt t) => Q (.int t.length) G
    | _ => False)
  | _ => False
@[simp] def bAbs (ws : List W) (G : Gh) (Q : QV) : Prop := match ws with
  | [.int i] => Q (.int i.natAbs) G
  | _ => False
/-- a decimal figure; the number that a row of figures writes -/
def isDg (c : Nat) : Bool := decide (48 ≤ c) && decide (c ≤ 57)
def digVal (s : List Nat) : Nat := s.foldl (fun acc c => acc * 10 + (c - 48)) 0
@[simp] def bInt (ws : List W) (G : Gh) (Q : QV) : Prop := match ws with
  | [.int i] => Q (.int i) G
  | [.bl b] => Q (.int (b2n b)) G
  | [.str s] => s ≠ [] ∧ s.all isDg = true ∧ s.length ≤ 640 ∧ Q (.int (digVal s : Nat)) G
  | _ => False
@[simp] def bMin (ws : List W) (G : Gh) (Q : QV) : Prop := match ws with
  | [.int i, .int j] => Q (.int (min i j)) G
  | _ => False
@[simp] def bMax (ws : List W) (G : Gh) (Q : QV) : Prop := match ws with
  | [.int i, .int j] => Q (.int (max i j)) G
  | _ => False
/-- the intsW of a list of intsW -/
def intsW : List W → Option (List Int)
  | [] => some []
  | .int i :: r => (intsW r).map (i :: ·)
  | _ :: _ => none
@[simp] theorem intsW_map (ns : List Int) : intsW (ns.map W.int) = some ns := by
  induction ns with
  | nil => rfl
  | cons n r ih => rw [List.map_cons, intsW, ih]; rfl
@[simp] def bSum (ws : List W) (G : Gh) (Q : QV) : Prop := match ws with
  | [.ref a] => (match G a with
    | some (.lst t) => (match intsW t with | some ns => Q (.int ns.sum) G | none => False)
    | _ => False)
  | _ => False
/-- the name of a value's class -/
@[simp] def clsN (x : W) (G : Gh) : Option String := match x with
  | .non => some "NoneType"
  | .bl _ => some "bool"
  | .int _ => some "int"
  | .str _ => some "str"
  | .tup _ => some "tuple"
  | .ktp _ => some "tuple"
  | .kl _ => none
  | .ref a => (match G a with
    | some (.lst _) => some "list"
    | some (.rdl _) => some "list"
    | some (.dct _) => some "dict"
    | some (.dtt _) => some "dict"
    | some (.rdc _) => some "dict"
    | _ => none)
  | .ty _ => none
@[simp] def isSub (a b : String) : Bool := a == b || (a == "bool" && b == "int")
def tyN : List String := ["int", "bool", "str", "tuple", "list", "dict"]
@[simp] def bIsi (ws : List W) (G : Gh) (Q : QV) : Prop := match ws with
  | [x, .ty n] => (match clsN x G with | some c => n ∈ tyN ∧ Q (.bl (isSub c n)) G | none => False)
  | _ => False
/-! methods -/
@[simp] def mAppend (x : W) (ws : List W) (G : Gh) (Q : QV) : Prop := match x with
  | .ref a => (match G a with
    | some (.lst t) => (match ws with | [w] => t.length < SZ ∧ Q .non (up G a (.lst (t ++ [w]))) | _ => False)
    | _ => False)
  | _ => False
/-- the receiver of a built-in class's method -/
@[simp] def tyW (T : String) (x : W) (G : Gh) : Prop := match x with
  | .str _ => T = "str"
  | .ref a => (match G a with
    | some (.lst _) => T = "list"
    | some (.rdl _) => T = "list"
    | some (.dct _) => T = "dict"
    | some (.dtt _) => T = "dict"
    | _ => False)
  | _ => False
/-- a built-in's method, by values -/
@[simp] def eBm (T : String) (r : W → List W → Gh → QV → Prop) (o : TE) (a : TA) : TE := fun γ G E Q => o γ G E fun x G1 => tyW T x G1 ∧ a γ G1 E fun ws G2 => r x ws G2 Q
/-- a text cut at a sign -/
def consH (d : Nat) : List (List Nat) → List (List Nat)
  | [] => [[d]]
  | p :: q => (d :: p) :: q
def splitN (c : Nat) : List Nat → List (List Nat)
  | [] => [[]]
  | d :: r => if d = c then [] :: splitN c r else consH d (splitN c r)
theorem splitN_cons (c d : Nat) (r : List Nat) : splitN c (d :: r) = if d = c then [] :: splitN c r else consH d (splitN c r) := rfl
theorem splitN_ne (c : Nat) (l : List Nat) : splitN c l ≠ [] := by
  cases l with
  | nil => exact fun z => nomatch z
  | cons e l =>
    rw [splitN_cons]
    split
    · exact fun z => nomatch z
    · cases splitN c l <;> exact fun z => nomatch z
def joinN (s : List Nat) : List (List Nat) → List Nat
  | [] => []
  | [p] => p
  | p :: q :: r => p ++ s ++ joinN s (q :: r)
/-- the texts of a list of texts -/
def strsW : List W → Option (List (List Nat))
  | [] => some []
  | .str i :: r => (strsW r).map (i :: ·)
  | _ :: _ => none
@[simp] theorem strsW_map (ns : List (List Nat)) : strsW (ns.map W.str) = some ns := by
  induction ns with
  | nil => rfl
  | cons n r ih => rw [List.map_cons, strsW, ih]; rfl
@[simp] def mSplit (x : W) (ws : List W) (G : Gh) (Q : QV) : Prop := match x with
  | .str s => (match ws with | [.str [c]] => c < 256 ∧ s.length + 2 ≤ SZ ∧ ∀ p, G p = none → Q (.ref p) (up G p (.lst ((splitN c s).map W.str))) | _ => False)
  | _ => False
@[simp] def mCount (x : W) (ws : List W) (G : Gh) (Q : QV) : Prop := match x with
  | .str s => (match ws with | [.str [c]] => Q (.int (s.count c : Nat)) G | _ => False)
  | _ => False
/-- the length of texts joined, with room to spare -/
def joinLen (s : List Nat) (ps : List (List Nat)) : Nat := (ps.map (·.length)).sum + s.length * ps.length
@[simp] def mJoin (x : W) (ws : List W) (G : Gh) (Q : QV) : Prop := match x with
  | .str s => (match ws with
    | [.ref a] => (match G a with
      | some (.lst t) => (match strsW t with | some ps => joinLen s ps ≤ SZ ∧ Q (.str (joinN s ps)) G | none => False)
      | _ => False)
    | [.tup t] => (match strsW t with | some ps => joinLen s ps ≤ SZ ∧ Q (.str (joinN s ps)) G | none => False)
    | _ => False)
  | _ => False
end L3

end
section
set_option autoImplicit false
/-! L3DefB: more readings. -/
namespace L3
/-- code that the promise never comes to -/
@[simp] def sNever : TS := fun _ _ _ => False
@[simp] def eNever : TE := fun _ _ _ _ => False
def blsW : List W → Option (List Bool)
  | [] => some []
  | .bl i :: r => (blsW r).map (i :: ·)
  | _ :: _ => none
@[simp] theorem blsW_map (ns : List Bool) : blsW (ns.map W.bl) = some ns := by
  induction ns with
  | nil => rfl
  | cons n r ih => rw [List.map_cons, blsW, ih]; rfl
@[simp] def bAll (ws : List W) (G : Gh) (Q : QV) : Prop := match ws with
  | [.ref a] => (match G a with
    | some (.lst t) => (match blsW t with | some ns => Q (.bl (ns.all id)) G | none => False)
    | _ => False)
  | _ => False
@[simp] def bAny (ws : List W) (G : Gh) (Q : QV) : Prop := match ws with
  | [.ref a] => (match G a with
    | some (.lst t) => (match blsW t with | some ns => Q (.bl (ns.any id)) G | none => False)
    | _ => False)
  | _ => False
@[simp] def bRepr (ws : List W) (G : Gh) (Q : QV) : Prop := match ws with
  | [.bl b] => Q (.str (if b = true then [84, 114, 117, 101] else [70, 97, 108, 115, 101])) G
  | _ => False
/-- the pairs of two lists -/
def zitems (x y : W) : It := fun G => match items x G with
  | some xs => (match items y G with
    | some ys => some (List.zipWith (fun a b => W.tup [a, b]) xs ys)
    | none => none)
  | none => none
@[simp] def iZip (a : TA) : TI := fun γ G E R => a γ G E fun ws G1 => match ws with
  | [.ref p, .ref q] => (zitems (.ref p) (.ref q) G1).isSome = true ∧ R (zitems (.ref p) (.ref q)) G1
  | _ => False
/-- s.replace of one sign by a text -/
@[simp] def mReplace (x : W) (ws : List W) (G : Gh) (Q : QV) : Prop := match x with
  | .str s => (match ws with
    | [.str [c], .str z] => s.length + (s.length + 1) * z.length ≤ SZ ∧ c < 256 ∧ Q (.str (joinN z (splitN c s))) G
    | _ => False)
  | _ => False
/-- where c is found first, from n on -/
def fndS (s : List Nat) (c n : Nat) (r : Int) : Prop := (r = -1 ∧ ∀ v, n ≤ v → s[v]? ≠ some c) ∨ ∃ k : Nat, r = (k : Int) ∧ n ≤ k ∧ s[k]? = some c ∧ ∀ v, n ≤ v → v < k → s[v]? ≠ some c
@[simp] def mFind3 (x : W) (ws : List W) (G : Gh) (Q : QV) : Prop := match x with
  | .str s => (match ws with
    | [.str [c], .int i] => 0 ≤ i ∧ ∀ r, fndS s c i.toNat r → Q (.int r) G
    | _ => False)
  | _ => False
@[simp] def bTuple (ws : List W) (G : Gh) (Q : QV) : Prop := match ws with
  | [.tup t] => Q (.tup t) G
  | [.ref a] => (match G a with
    | some (.lst t) => Q (.tup t) G
    | _ => False)
  | _ => False
/-- where c is found last -/
def lastS (s : List Nat) (c : Nat) (r : Int) : Prop := (r = -1 ∧ ∀ v : Nat, s[v]? ≠ some c) ∨ ∃ k : Nat, r = (k : Int) ∧ s[k]? = some c ∧ ∀ v : Nat, k < v → s[v]? ≠ some c
@[simp] def mRfind (x : W) (ws : List W) (G : Gh) (Q : QV) : Prop := match x with
  | .str s => (match ws with
    | [.str [c]] => ∀ r, lastS s c r → Q (.int r) G
    | _ => False)
  | _ => False
/-- raise C('..') of a class of the program; try .. except C: with a body that raises that class alone, if any -/
@[simp] def sThrow (C : Nat) : TS := fun D γ G => D.ex γ (.ref C) [] G
@[simp] def sTry (C : Nat) (b h : TS) : TS := fun D γ G => b { D with ex := fun γ' w es G' => (match w with | .ref c => c = C ∧ es = [] ∧ h { D with ex := fun _ => X0 } γ' G' | _ => False) } γ G
end L3

end
section
set_option autoImplicit false
/-! L3DefC: readings of classes, of dicts by any key, of texts backwards, of try .. finally. -/
namespace L3
/-! ### instances -/
def setF : List W → Nat → W → Option (List W)
  | [], 0, w => some [w]
  | [], _ + 1, _ => none
  | _ :: r, 0, w => some (w :: r)
  | x :: r, i + 1, w => (setF r i w).map (x :: ·)
@[simp] theorem setF_nil {w : W} : setF [] 0 w = some [w] := rfl
@[simp] theorem setF_zero {x w : W} {r : List W} : setF (x :: r) 0 w = some (w :: r) := rfl
@[simp] theorem setF_succ {x w : W} {r : List W} {i : Nat} : setF (x :: r) (i + 1) w = (setF r i w).map (x :: ·) := rfl
def nthW : List W → Nat → Option W
  | [], _ => none
  | x :: _, 0 => some x
  | _ :: r, i + 1 => nthW r i
@[simp] theorem nthW_zero {x : W} {r : List W} : nthW (x :: r) 0 = some x := rfl
@[simp] theorem nthW_succ {x : W} {r : List W} {i : Nat} : nthW (x :: r) (i + 1) = nthW r i := rfl
theorem nthW_eq : ∀ (ws : List W) (i : Nat), nthW ws i = ws[i]?
  | [], i => by cases i <;> rfl
  | x :: r, 0 => rfl
  | x :: r, i + 1 => by rw [nthW_succ, nthW_eq r i, List.getElem?_cons_succ]
/-- the instance at x -/
@[simp] def asIns (C : Nat) (ns : List (List Nat)) (x : W) (G : Gh) (Q : Nat → List W → Prop) : Prop := match x with
  | .ref p => (match G p with
    | some (.ins C' ns' ws) => C' = C ∧ ns' = ns ∧ Q p ws
    | _ => False)
  | _ => False
@[simp] def eFld (C : Nat) (ns : List (List Nat)) (i : Nat) (o : TE) : TE := fun γ G E Q => o γ G E fun x G1 => asIns C ns x G1 fun _ ws => match nthW ws i with | some w => Q w G1 | none => False
@[simp] def sFld (C : Nat) (ns : List (List Nat)) (i : Nat) (o v : TE) : TS := fun D γ G => v γ G (D.ex γ) fun w G1 => o γ G1 (D.ex γ) fun x G2 => asIns C ns x G2 fun p ws => match setF ws i w with | some ws' => D.nx γ (up G2 p (.ins C ns ws')) | none => False
@[simp] def sFldAug (C : Nat) (ns : List (List Nat)) (i : Nat) (r : R2) (o v : TE) : TS := fun D γ G => o γ G (D.ex γ) fun x G1 => asIns C ns x G1 fun _ ws => match nthW ws i with
  | some w => v γ G1 (D.ex γ) fun y G2 => r w y G2 fun z G3 => asIns C ns x G3 fun p ws' => match setF ws' i z with | some ws2 => D.nx γ (up G3 p (.ins C ns ws2)) | none => False
  | none => False
@[simp] def eMet (C : Nat) (ns : List (List Nat)) (sp : Sp) (o : TE) (a : TA) : TE := fun γ G E Q => o γ G E fun x G1 => asIns C ns x G1 fun _ _ => a γ G1 E fun ws G2 => sp (x :: ws) G2 Q E
/-- a call of what slot i holds, the def at f -/
@[simp] def eCallV (f : Nat) (sp : Sp) (i : Nat) (a : TA) : TE := fun γ G E Q => get γ i = some (.ref f) ∧ a γ G E fun ws G1 => sp ws G1 Q E
/-- C(..), the __init__ raises nothing -/
@[simp] def eMakeX (C : Nat) (ns : List (List Nat)) (sp : Sp) (a : TA) : TE := fun γ G E Q => a γ G E fun ws G1 => ∀ p, G1 p = none → sp (.ref p :: ws) (up G1 p (.ins C ns [])) (fun v G2 => v = .non ∧ Q (.ref p) G2) X0
/-! ### subscripts of anything -/
def keyT : W → Bool
  | .tup ws => ws.all key1
  | _ => false
@[simp] theorem keyT_tup {ws : List W} : keyT (.tup ws) = ws.all key1 := rfl
@[simp] def dictOf (x : W) (G : Gh) (y : W) (Q : List (W × W) → Prop) : Prop := match x with
  | .ref a => (match G a with
    | some (.dct kvs) => key1 y = true ∧ Q kvs
    | some (.rdc kvs) => key1 y = true ∧ Q kvs
    | some (.dtt kvs) => keyT y = true ∧ Q kvs
    | some (.rdt kvs) => keyT y = true ∧ Q kvs
    | _ => False)
  | _ => False
@[simp] def rAt : R2 := fun x y G Q => match x with
  | .str s => (match y with | .int i => s.length ≤ SZ ∧ (match at_ s i with | some c => Q (.str [c]) G | none => False) | _ => False)
  | .tup ws => (match y with | .int i => (match at_ ws i with | some w => Q w G | none => False) | _ => False)
  | .ktp ws => (match y with | .int i => (match at_ ws i with | some w => Q w G | none => False) | _ => False)
  | .ref a => (match G a with
    | some (.lst ws) => (match y with | .int i => (match at_ ws i with | some w => Q w G | none => False) | _ => False)
    | some (.rdl ws) => (match y with | .int i => (match at_ ws i with | some w => Q w G | none => False) | _ => False)
    | some (.dct kvs) => key1 y = true ∧ (match look kvs y with | some v => Q v G | none => False)
    | some (.rdc kvs) => key1 y = true ∧ (match look kvs y with | some v => Q v G | none => False)
    | some (.dtt kvs) => keyT y = true ∧ (match look kvs y with | some v => Q v G | none => False)
    | some (.rdt kvs) => keyT y = true ∧ (match look kvs y with | some v => Q v G | none => False)
    | _ => False)
  | _ => False
/-- o[i] = v: first v, then o, then i -/
@[simp] def sPutA (v o i : TE) : TS := fun D γ G => v γ G (D.ex γ) fun z G1 => o γ G1 (D.ex γ) fun x G2 => i γ G2 (D.ex γ) fun y G3 => match x with
  | .ref a => (match G3 a with
    | some (.lst ws) => (match y with | .int j => (match ixn ws.length j with | some n => D.nx γ (up G3 a (.lst (ws.set n z))) | none => False) | _ => False)
    | some (.dct kvs) => key1 y = true ∧ kvs.length < SZ ∧ D.nx γ (up G3 a (.dct (putD kvs y z)))
    | some (.dtt kvs) => keyT y = true ∧ kvs.length < SZ ∧ D.nx γ (up G3 a (.dtt (putD kvs y z)))
    | _ => False)
  | _ => False
/-- k in d, for dicts too -/
@[simp] def rInB (x y : W) (G : Gh) (Q : Bool → Prop) : Prop := match y with
  | .str s => (match x with | .str [c] => Q (decide (c ∈ s)) | _ => False)
  | .tup ws => ((flatW x = true ∧ ws.all flatW = true) ∨ (okD DP x = true ∧ ws.all (okD DP) = true)) ∧ Q (ws.any fun w => weq w x)
  | .ktp ws => (flatW x = true ∧ ws.all flatW = true) ∧ Q (ws.any fun w => weq w x)
  | .ref a => (match G a with
    | some (.lst ws) => okD DP x = true ∧ ws.all (okD DP) = true ∧ Q (ws.any fun w => weq w x)
    | some (.dct kvs) => key1 x = true ∧ Q (has kvs x)
    | some (.rdc kvs) => key1 x = true ∧ Q (has kvs x)
    | some (.dtt kvs) => keyT x = true ∧ Q (has kvs x)
    | some (.rdt kvs) => keyT x = true ∧ Q (has kvs x)
    | _ => False)
  | _ => False
@[simp] def rInD : R2 := fun x y G Q => rInB x y G fun k => Q (.bl k) G
@[simp] def rNotInD : R2 := fun x y G Q => rInB x y G fun k => Q (.bl (!k)) G
@[simp] def eDnewT : TE := fun _ G _ Q => ∀ p, G p = none → Q (.ref p) (up G p (.dtt []))
/-! ### methods of dicts and lists -/
@[simp] def isDW (x : W) (G : Gh) : Prop := match x with
  | .ref a => (match G a with
    | some (.dct _) => True
    | some (.rdc _) => True
    | some (.dtt _) => True
    | some (.rdt _) => True
    | _ => False)
  | _ => False
/-- d.get(k), d.get(k, z) -/
@[simp] def eDget1 (o i : TE) : TE := fun γ G E Q => o γ G E fun x G1 => isDW x G1 ∧ i γ G1 E fun y G2 => dictOf x G2 y fun kvs => Q ((look kvs y).getD .non) G2
@[simp] def eDget2 (o i d : TE) : TE := fun γ G E Q => o γ G E fun x G1 => isDW x G1 ∧ i γ G1 E fun y G2 => d γ G2 E fun z G3 => dictOf x G3 y fun kvs => Q ((look kvs y).getD z) G3
@[simp] def isDM (x : W) (G : Gh) : Prop := match x with
  | .ref a => (match G a with
    | some (.dct _) => True
    | some (.dtt _) => True
    | _ => False)
  | _ => False
/-- d.pop(k, z) -/
@[simp] def popD (x y z : W) (G : Gh) (Q : QV) : Prop := match x with
  | .ref a => (match G a with
    | some (.dct kvs) => key1 y = true ∧ (match look kvs y with | some v => Q v (up G a (.dct (dropD kvs y))) | none => Q z G)
    | some (.dtt kvs) => keyT y = true ∧ (match look kvs y with | some v => Q v (up G a (.dtt (dropD kvs y))) | none => Q z G)
    | _ => False)
  | _ => False
@[simp] def eDpop2 (o i d : TE) : TE := fun γ G E Q => o γ G E fun x G1 => isDM x G1 ∧ i γ G1 E fun y G2 => d γ G2 E fun z G3 => popD x y z G3 Q
/-- d.pop(k), the key is there -/
@[simp] def popK (x y : W) (G : Gh) (Q : QV) : Prop := match x with
  | .ref a => (match G a with
    | some (.dct kvs) => key1 y = true ∧ (match look kvs y with | some v => Q v (up G a (.dct (dropD kvs y))) | none => False)
    | some (.dtt kvs) => keyT y = true ∧ (match look kvs y with | some v => Q v (up G a (.dtt (dropD kvs y))) | none => False)
    | _ => False)
  | _ => False
@[simp] def eDpop1 (o i : TE) : TE := fun γ G E Q => o γ G E fun x G1 => isDM x G1 ∧ i γ G1 E fun y G2 => popK x y G2 Q
/-- d.setdefault(k, z) -/
@[simp] def eDsetd (o i d : TE) : TE := fun γ G E Q => o γ G E fun x G1 => isDM x G1 ∧ i γ G1 E fun y G2 => d γ G2 E fun z G3 => match x with
  | .ref a => (match G3 a with
    | some (.dct kvs) => key1 y = true ∧ kvs.length < SZ ∧ (match look kvs y with | some v => Q v G3 | none => Q z (up G3 a (.dct (putD kvs y z))))
    | some (.dtt kvs) => keyT y = true ∧ kvs.length < SZ ∧ (match look kvs y with | some v => Q v G3 | none => Q z (up G3 a (.dtt (putD kvs y z))))
    | _ => False)
  | _ => False
/-- xs.pop() -/
@[simp] def mPop (x : W) (ws : List W) (G : Gh) (Q : QV) : Prop := match x with
  | .ref a => (match G a with
    | some (.lst t) => (match ws with | [] => (match t.getLast? with | some w => Q w (up G a (.lst t.dropLast)) | none => False) | _ => False)
    | _ => False)
  | _ => False
/-- list(x) -/
@[simp] def bList (ws : List W) (G : Gh) (Q : QV) : Prop := match ws with
  | [.tup t] => ∀ p, G p = none → Q (.ref p) (up G p (.lst t))
  | [.ktp t] => ∀ p, G p = none → Q (.ref p) (up G p (.lst t))
  | [.ref a] => (match G a with
    | some (.lst t) => ∀ p, G p = none → Q (.ref p) (up G p (.lst t))
    | some (.rdl t) => ∀ p, G p = none → Q (.ref p) (up G p (.lst t))
    | some (.dtt kvs) => ∀ p, G p = none → Q (.ref p) (up G p (.lst (kvs.map (·.1))))
    | _ => False)
  | _ => False
/-! ### the keys of a dict, which is locked while they are walked -/
@[simp] def kItems (a : Nat) : It := fun G => match G a with
  | some (.rdc kvs) => some (kvs.map (·.1))
  | some (.rdt kvs) => some (kvs.map (·.1))
  | _ => none
@[simp] def iKeys (e : TE) : TI := fun γ G E R => e γ G E fun x G1 => match x with
  | .ref a => (match G1 a with
    | some (.rdc _) => R (kItems a) G1
    | some (.rdt _) => R (kItems a) G1
    | _ => False)
  | _ => False
def lockD (a : Nat) (lo un : O) (D : Ends) : Ends := { D with nx := fun γ G => G a = some lo ∧ D.nx γ (up G a un), rt := fun w G => G a = some lo ∧ D.rt w (up G a un), bk := fun γ G => G a = some lo ∧ D.bk γ (up G a un), ct := fun γ G => G a = some lo ∧ D.ct γ (up G a un) }
/-- a dict is locked while the statement runs -/
def sLock (t : TS) : TS := fun D γ G => ∃ a kvs, (G a = some (.dct kvs) ∧ t (lockD a (.rdc kvs) (.dct kvs) D) γ (up G a (.rdc kvs))) ∨ (G a = some (.dtt kvs) ∧ t (lockD a (.rdt kvs) (.dtt kvs) D) γ (up G a (.rdt kvs)))
/-! ### sorted of a dict with tuple keys: some order of them -/
def kindW : W → Nat
  | .int _ => 1
  | .str _ => 2
  | _ => 0
def sameK (ks : List W) : Prop := ∃ sh : List Nat, sh ≠ [] ∧ ∀ k ∈ ks, ∃ ws, k = W.tup ws ∧ ws.map kindW = sh
@[simp] def bSortd (ws : List W) (G : Gh) (Q : QV) : Prop := match ws with
  | [.ref a] => (match G a with
    | some (.dtt kvs) => sameK (kvs.map (·.1)) ∧ ∀ p ks, G p = none → ks.Perm (kvs.map (·.1)) → Q (.ref p) (up G p (.lst ks))
    | _ => False)
  | _ => False
/-! ### str(i) -/
def decI (i : Int) : List Nat := (toString i).toList.map Char.toNat
@[simp] def bStr (ws : List W) (G : Gh) (Q : QV) : Prop := match ws with
  | [.int i] => i.natAbs.log2 < 1920 ∧ Q (.str (decI i)) G
  | [.str a] => Q (.str a) G
  | [.bl b] => Q (.str (if b = true then [84, 114, 117, 101] else [70, 97, 108, 115, 101])) G
  | _ => False
/-- x is True -/
@[simp] def rIsL : R2 := fun x y G Q => match x with | .bl a => (match y with | .bl b => Q (.bl (decide (a = b))) G | _ => False) | _ => False
@[simp] def rIsLN : R2 := fun x y G Q => match x with | .bl a => (match y with | .bl b => Q (.bl (!decide (a = b))) G | _ => False) | _ => False
/-! ### except C as e -/
def sTryAs (C i : Nat) (b : TS) (h : Nat → TS) : TS := fun D γ G => b { D with ex := fun γ' w es G' => (match w with | .ref c => c = C ∧ es = [] ∧ ∀ a, G' a = none → h a { nx := fun γ2 G2 => D.nx (del γ2 i) G2, rt := D.rt, bk := fun γ2 G2 => D.bk (del γ2 i) G2, ct := fun γ2 G2 => D.ct (del γ2 i) G2, ex := fun _ => X0 } (put γ' i (.ref a)) G' | _ => False) } γ G
/-- isinstance(e, c), e the error at a, of the class that the suite tells -/
@[simp] def bIsE (a : Nat) (c : W) (b : Bool) (ws : List W) (G : Gh) (Q : QV) : Prop := match ws with
  | [.ref a', c'] => a' = a ∧ c' = c ∧ Q (.bl b) G
  | _ => False
/-! ### texts -/
@[simp] def iZipS (a : TA) : TI := fun γ G E R => a γ G E fun ws G1 => match ws with
  | [.str x, .str y] => R (fun _ => some (List.zipWith (fun c d => W.tup [.str [c], .str [d]]) x y)) G1
  | _ => False
/-- x[::-1] -/
@[simp] def eRev (a : TE) : TE := fun γ G E Q => a γ G E fun x G1 => match x with
  | .str s => s.length ≤ SZ ∧ Q (.str s.reverse) G1
  | .ref p => (match G1 p with
    | some (.lst ws) => ∀ q, G1 q = none → Q (.ref q) (up G1 q (.lst ws.reverse))
    | _ => False)
  | _ => False
/-! ### try -/
/-- try: b, finally: h (h changes no flow and raises nothing) -/
@[simp] def sFin (b h : TS) : TS := fun D γ G => b { nx := fun γ' G' => h { D with ex := fun _ => X0 } γ' G', rt := fun w G' => False, ex := fun γ' w es G' => es = [] ∧ h { nx := fun γ2 G2 => D.ex γ2 w es G2, rt := fun _ _ => False, ex := fun _ => X0 } γ' G' } γ G
/-- what is walked is a list of the heap -/
def isRef : W → Prop
  | .ref _ => True
  | _ => False
@[simp] def iLst (e : TE) : TI := fun γ G E R => e γ G E fun x G1 => isRef x ∧ (items x G1).isSome = true ∧ R (items x) G1
/-- o[i] of a list, as a target -/
@[simp] def gSubL (o i : TE) : TG := fun w γ G Q => o γ G X0 fun x G1 => i γ G1 X0 fun y G2 => match x with
  | .ref a => (match G2 a with
    | some (.lst ws) => (match y with | .int j => (match ixn ws.length j with | some n => Q γ (up G2 a (.lst (ws.set n w))) | none => False) | _ => False)
    | _ => False)
  | _ => False
end L3

end
section
set_option autoImplicit false
/-! L3DefD: dicts that the module writes, zip of lists and tuples. -/
namespace L3
/-! ### a dict of the module, with text keys -/
abbrev KD := List (List Nat × W)
def lookS : KD → List Nat → Option W
  | [], _ => none
  | p :: r, k => if p.1 = k then some p.2 else lookS r k
@[simp] def eKget (d : KD) (i : TE) : TE := fun γ G E Q => i γ G E fun y G1 => match y with
  | .str z => Q ((lookS d z).getD .non) G1
  | _ => False
@[simp] def eKix (d : KD) (i : TE) : TE := fun γ G E Q => i γ G E fun y G1 => match y with
  | .str z => (match lookS d z with | some v => Q v G1 | none => False)
  | _ => False
@[simp] def eKin (d : KD) (i : TE) : TE := fun γ G E Q => i γ G E fun y G1 => match y with
  | .str z => Q (.bl (lookS d z).isSome) G1
  | _ => False
@[simp] def eKnin (d : KD) (i : TE) : TE := fun γ G E Q => i γ G E fun y G1 => match y with
  | .str z => Q (.bl (!(lookS d z).isSome)) G1
  | _ => False
/-! ### zip of lists and tuples -/
/-- neither a text nor a number -/
def isSeqW : W → Bool
  | .ref _ => true
  | .tup _ => true
  | .ktp _ => true
  | .kl _ => true
  | _ => false
def gitems (x y : W) (n m : Nat) : It := fun G => match items x G with
  | some xs => (match items y G with
    | some ys => if xs.length = n ∧ ys.length = m then some (List.zipWith (fun a b => W.tup [a, b]) xs ys) else none
    | none => none)
  | none => none
@[simp] def iZipG (a : TA) : TI := fun γ G E R => a γ G E fun ws G1 => match ws with
  | [x, y] => isSeqW x = true ∧ isSeqW y = true ∧ ∃ xs ys, items x G1 = some xs ∧ items y G1 = some ys ∧ R (gitems x y xs.length ys.length) G1
  | _ => False
theorem gitems_eq {x y : W} {G : Gh} {xs ys : List W} (h1 : items x G = some xs) (h2 : items y G = some ys) : gitems x y xs.length ys.length G = some (List.zipWith (fun a b => W.tup [a, b]) xs ys) := by
  unfold gitems
  rw [h1, h2]
  simp
/-- a comprehension whose test or element may raise -/
@[simp] def eLcX (i : TI) (g : TG) (t : TT) (e : TE) (vs : List Nat) : TE := fun γ G E Q => i γ G E fun J G1 => ∀ D, G1 D = none → ∃ all, J (up G1 D (.lst [])) = some all ∧
  lcL J all g t e (wipe γ vs) D E Q all [] (up G1 D (.lst []))
end L3

end
section
set_option autoImplicit false
/-! L3Lem: lemmas about the readings. -/
namespace L3
/-- a comprehension without a test whose element changes nothing -/
theorem lcL_map {J : It} {all : List W} {i : Nat} {e : TE} {γ : Fr} {D : Nat} {Q : QV} {G0 : Gh} (f : W → W) (hJ : ∀ acc, J (up G0 D (.lst acc)) = some all)
    (he : ∀ w ∈ all, ∀ acc (K : QV), K (f w) (up G0 D (.lst acc)) → e (put γ i w) (up G0 D (.lst acc)) X0 K) :
    ∀ (r acc : List W), (∀ w ∈ r, w ∈ all) → acc.length + r.length ≤ SZ → Q (.ref D) (up G0 D (.lst (acc ++ r.map f))) → lcL J all (gName i) tYes e γ D X0 Q r acc (up G0 D (.lst acc))
  | [], acc, _, _, h => ⟨hJ acc, up_same, by simpa using h⟩
  | w :: r, acc, hm, hl, h => by
    refine ⟨hJ acc, up_same, ?_⟩
    simp only [gName, tYes, if_true]
    refine he w (hm w (by simp)) acc _ ⟨up_same, ?_, ?_⟩
    · rw [List.length_cons] at hl; omega
    · rw [up_up]
      exact lcL_map f hJ he r (acc ++ [f w]) (fun z hz => hm z (by simp [hz])) (by simp only [List.length_cons, List.length_append, List.length_nil] at hl ⊢; omega) (by simpa using h)
/-- .. with a test -/
theorem lcL_filter {J : It} {all : List W} {i : Nat} {t : TT} {e : TE} {γ : Fr} {D : Nat} {Q : QV} {G0 : Gh} (p : W → Bool) (f : W → W) (hJ : ∀ acc, J (up G0 D (.lst acc)) = some all)
    (ht : ∀ w ∈ all, ∀ acc (K : Bool → Gh → Prop), K (p w) (up G0 D (.lst acc)) → t (put γ i w) (up G0 D (.lst acc)) X0 K)
    (he : ∀ w ∈ all, p w = true → ∀ acc (K : QV), K (f w) (up G0 D (.lst acc)) → e (put γ i w) (up G0 D (.lst acc)) X0 K) :
    ∀ (r acc : List W), (∀ w ∈ r, w ∈ all) → acc.length + r.length ≤ SZ → Q (.ref D) (up G0 D (.lst (acc ++ (r.filter p).map f))) → lcL J all (gName i) t e γ D X0 Q r acc (up G0 D (.lst acc))
  | [], acc, _, _, h => ⟨hJ acc, up_same, by simpa using h⟩
  | w :: r, acc, hm, hl, h => by
    refine ⟨hJ acc, up_same, ht w (hm w (by simp)) acc _ ?_⟩
    cases e1 : p w with
    | true =>
      rw [if_pos rfl]
      refine he w (hm w (by simp)) e1 acc _ ⟨up_same, ?_, ?_⟩
      · rw [List.length_cons] at hl; omega
      · rw [up_up]
        refine lcL_filter p f hJ ht he r (acc ++ [f w]) (fun z hz => hm z (by simp [hz])) (by simp only [List.length_cons, List.length_append, List.length_nil] at hl ⊢; omega) ?_
        rw [List.filter_cons, if_pos e1] at h
        simpa using h
    | false =>
      rw [if_neg (by decide)]
      refine lcL_filter p f hJ ht he r acc (fun z hz => hm z (by simp [hz])) (by simp only [List.length_cons] at hl; omega) ?_
      rw [List.filter_cons, if_neg (by rw [e1]; decide)] at h
      exact h
/-- a for by an invariant over what is left; F is what stands behind the turn -/
theorem forL_ind {J : It} {all : List W} {g : TG} {b : TS} {D : Ends} (I : List W → Fr → Gh → Prop) (hJ : ∀ r γ G, I r γ G → J G = some all) (hend : ∀ γ G, I [] γ G → D.nx γ G)
    (step : ∀ w r γ G, I (w :: r) γ G → ∀ F : Fr → Gh → Prop, (∀ γ' G', I r γ' G' → F γ' G') → g w γ G (fun γ' G' => b { D with nx := F, ct := F, bk := D.nx } γ' G')) : ∀ r γ G, I r γ G → forL J all g b D r γ G
  | [], γ, G, h => ⟨hJ _ γ G h, hend γ G h⟩
  | w :: r, γ, G, h => ⟨hJ _ γ G h, step w r γ G h _ fun γ' G' h' => forL_ind I hJ hend step r γ' G' h'⟩
/-- a while by an invariant and a number of turns that suffice -/
theorem whileN_ind {c : TT} {b : TS} {D : Ends} (I : Nat → Fr → Gh → Prop)
    (step : ∀ n γ G, I n γ G → ∀ F : Fr → Gh → Prop, (∀ m, n = m + 1 → ∀ γ' G', I m γ' G' → F γ' G') → c γ G (D.ex γ) fun k G1 => if k = true then b { D with nx := F, ct := F, bk := D.nx } γ G1 else D.nx γ G1) : ∀ n γ G, I n γ G → whileN c b D (n + 1) γ G
  | 0, γ, G, h => step 0 γ G h _ fun m e => by cases e
  | n + 1, γ, G, h => step (n + 1) γ G h _ fun m e γ' G' h' => by cases e; exact whileN_ind I step n γ' G' h'
/-- a comprehension by an invariant over what is left and what is made -/
theorem lcL_ind {J : It} {all : List W} {g : TG} {t : TT} {e : TE} {γ : Fr} {D : Nat} {E : XQ} {Q : QV} (I : List W → List W → Gh → Prop) (hJ : ∀ r acc G, I r acc G → J G = some all ∧ G D = some (.lst acc)) (hend : ∀ acc G, I [] acc G → Q (.ref D) G)
    (step : ∀ w r acc G, I (w :: r) acc G → ∀ F : List W → Gh → Prop, (∀ acc' G', I r acc' G' → F acc' G') → g w γ G fun γ2 G2 => t γ2 G2 E fun k G3 =>
      if k = true then e γ2 G3 E fun y G4 => G4 D = some (.lst acc) ∧ acc.length < SZ ∧ F (acc ++ [y]) (up G4 D (.lst (acc ++ [y]))) else F acc G3) : ∀ r acc G, I r acc G → lcL J all g t e γ D E Q r acc G
  | [], acc, G, h => ⟨(hJ _ _ _ h).1, (hJ _ _ _ h).2, hend acc G h⟩
  | w :: r, acc, G, h => ⟨(hJ _ _ _ h).1, (hJ _ _ _ h).2, step w r acc G h (fun acc' G' => lcL J all g t e γ D E Q r acc' G') fun acc' G' h' => lcL_ind I hJ hend step r acc' G' h'⟩
theorem rangeW_length (lo : Int) (n : Nat) : (rangeW lo n).length = n := by simp [rangeW]
theorem mem_rangeW {lo : Int} {n : Nat} {w : W} (h : w ∈ rangeW lo n) : ∃ i : Nat, i < n ∧ w = .int (lo + i) := by
  unfold rangeW at h
  obtain ⟨i, hi, rfl⟩ := List.mem_map.mp h
  exact ⟨i, List.mem_range.mp hi, rfl⟩
theorem rngOk_nat {n : Nat} (h : n ≤ SZ) : rngOk (n : Int) := by
  have h1 : (16777216 : Int) < 2 ^ 62 := by decide
  have h2 : (0 : Int) ≤ 2 ^ 62 := by decide
  simp at h
  exact ⟨by omega, by omega⟩
theorem rngOk_small {n : Int} (h0 : 0 ≤ n) (h : n ≤ 16777216) : rngOk n := by
  have h1 : (16777216 : Int) < 2 ^ 62 := by decide
  have h2 : (0 : Int) ≤ 2 ^ 62 := by decide
  exact ⟨by omega, by omega⟩
theorem at_nat {α : Type} {xs : List α} {i : Nat} {x : α} (e : xs[i]? = some x) : at_ xs (i : Int) = some x := by
  have hi : i < xs.length := (List.getElem?_eq_some_iff.mp e).1
  unfold at_ ixn
  rw [if_pos (by omega), Int.toNat_natCast, if_pos hi]
  exact e
theorem at_int {α : Type} {xs : List α} {i : Int} {x : α} (h0 : 0 ≤ i) (e : xs[i.toNat]? = some x) : at_ xs i = some x := by
  obtain ⟨n, rfl⟩ := Int.eq_ofNat_of_zero_le h0
  exact at_nat e
theorem at_last {α : Type} (xs : List α) (x : α) : at_ (xs ++ [x]) (-1) = some x := by
  unfold at_ ixn
  rw [if_neg (by decide), if_pos (by simp)]
  simp
/-- a for over the values of a list, by the number of turns done -/
theorem forX_ind {α : Type} {J : It} {all : List W} {g : TG} {b : TS} {D : Ends} (xs : List α) (f : α → W) (I : Nat → Fr → Gh → Prop) (hJ : ∀ i γ G, i ≤ xs.length → I i γ G → J G = some all) (hend : ∀ γ G, I xs.length γ G → D.nx γ G)
    (step : ∀ i x γ G, xs[i]? = some x → I i γ G → ∀ F : Fr → Gh → Prop, (∀ γ' G', I (i + 1) γ' G' → F γ' G') → g (f x) γ G (fun γ' G' => b { D with nx := F, ct := F, bk := D.nx } γ' G')) (γ : Fr) (G : Gh) (h : I 0 γ G) : forL J all g b D (xs.map f) γ G := by
  refine forL_ind (fun r γ G => ∃ i, i ≤ xs.length ∧ r = (xs.drop i).map f ∧ I i γ G) (fun r γ G ⟨i, hi, _, h⟩ => hJ i γ G hi h) ?_ ?_ _ _ _ ⟨0, Nat.zero_le _, rfl, h⟩
  · rintro γ G ⟨i, hi, e, h⟩
    have e2 : xs.drop i = [] := by
      cases q : xs.drop i with
      | nil => rfl
      | cons a r => rw [q] at e; cases e
    have : xs.length ≤ i := List.drop_eq_nil_iff.mp e2
    obtain rfl : i = xs.length := by omega
    exact hend γ G h
  · rintro w r γ G ⟨i, hi, e, h⟩ F hF
    cases q : xs.drop i with
    | nil => rw [q] at e; cases e
    | cons x r' =>
      rw [q, List.map_cons, List.cons.injEq] at e
      obtain ⟨rfl, rfl⟩ := e
      have hl : i < xs.length := by
        have := congrArg List.length q
        simp at this; omega
      have hx : xs[i]? = some x := by
        have := congrArg (fun l => l[0]?) q
        simpa using this
      have hr : r' = xs.drop (i + 1) := by
        have := congrArg List.tail q
        simpa using this.symm
      exact step i x γ G hx h F fun γ' G' h' => hF _ _ ⟨i + 1, hl, by rw [hr], h'⟩
theorem forR_ind {J : It} {all : List W} {g : TG} {b : TS} {D : Ends} {lo : Int} {n : Nat} (I : Nat → Fr → Gh → Prop) (hJ : ∀ i γ G, i ≤ n → I i γ G → J G = some all) (hend : ∀ γ G, I n γ G → D.nx γ G)
    (step : ∀ i γ G, i < n → I i γ G → ∀ F : Fr → Gh → Prop, (∀ γ' G', I (i + 1) γ' G' → F γ' G') → g (.int (lo + (i : Int))) γ G (fun γ' G' => b { D with nx := F, ct := F, bk := D.nx } γ' G')) (γ : Fr) (G : Gh) (h : I 0 γ G) : forL J all g b D (rangeW lo n) γ G := by
  refine forX_ind (List.range n) _ I (fun i γ G hi h => hJ i γ G (by simpa using hi) h) (fun γ G h => hend γ G (by simpa using h)) (fun i x γ G hx h F hF => ?_) γ G h
  have hx' := List.getElem?_eq_some_iff.mp hx
  obtain ⟨hi, rfl⟩ := hx'
  simp only [List.length_range] at hi
  simpa using step i γ G hi h F hF
/-- an object that was not there at the beginning is written -/
theorem Le.upd {G K : Gh} {p : Nat} {o : O} (l : Le G K) (h : G p = none) : Le G (L3.up K p o) := fun b u e => by
  rw [up_ne (ne_free' e h)]
  exact l b u e
/-- a comprehension of any target whose test and element change nothing -/
theorem lcL_gen {J : It} {all : List W} {g : TG} {t : TT} {e : TE} {γ : Fr} {D : Nat} {Q : QV} {G0 : Gh} (p : W → Bool) (f : W → W) (hJ : ∀ acc, J (up G0 D (.lst acc)) = some all)
    (hs : ∀ w ∈ all, ∀ acc (K1 : QV) (K0 : Gh → Prop), (p w = true → K1 (f w) (up G0 D (.lst acc))) → (p w = false → K0 (up G0 D (.lst acc))) → g w γ (up G0 D (.lst acc)) fun γ2 G2 => t γ2 G2 X0 fun k G3 => if k = true then e γ2 G3 X0 K1 else K0 G3) :
    ∀ (r acc : List W), (∀ w ∈ r, w ∈ all) → acc.length + r.length ≤ SZ → Q (.ref D) (up G0 D (.lst (acc ++ (r.filter p).map f))) → lcL J all g t e γ D X0 Q r acc (up G0 D (.lst acc))
  | [], acc, _, _, h => ⟨hJ acc, up_same, by simpa using h⟩
  | w :: r, acc, hm, hl, h => by
    refine ⟨hJ acc, up_same, hs w (hm w (by simp)) acc _ _ (fun e1 => ⟨up_same, ?_, ?_⟩) fun e1 => ?_⟩
    · rw [List.length_cons] at hl; omega
    · rw [up_up]
      refine lcL_gen p f hJ hs r (acc ++ [f w]) (fun z hz => hm z (by simp [hz])) (by simp only [List.length_cons, List.length_append, List.length_nil] at hl ⊢; omega) ?_
      rw [List.filter_cons, if_pos e1] at h
      simpa using h
    · refine lcL_gen p f hJ hs r acc (fun z hz => hm z (by simp [hz])) (by simp only [List.length_cons] at hl; omega) ?_
      rw [List.filter_cons, if_neg (by rw [e1]; decide)] at h
      exact h
end L3

end
section
set_option autoImplicit false
/-! L3LemB: comprehensions by values. -/
namespace L3
theorem items_new {x : W} {G : Gh} {all : List W} {D : Nat} {o : O} (h : items x G = some all) (hD : G D = none) : items x (up G D o) = some all := by
  cases x with
  | ref a =>
    simp only [items] at h ⊢
    cases e : G a with
    | none => rw [e] at h; cases h
    | some u => rw [up_ne (ne_free' e hD), e]; rw [e] at h; exact h
  | _ => exact h
theorem items_le {x : W} {G G' : Gh} {all : List W} (h : items x G = some all) (l : Le G G') : items x G' = some all := by
  cases x with
  | ref a =>
    simp only [items] at h ⊢
    cases e : G a with
    | none => rw [e] at h; cases h
    | some u => rw [l _ _ e]; rw [e] at h; exact h
  | _ => exact h
/-- [e for j in x], e changes nothing -/
theorem lc_val {ei e : TE} {j : Nat} {vs : List Nat} {x : W} {all : List W} {f : W → W} {γ : Fr} {G : Gh} {E : XQ} {Q : QV} (hx : ∀ K : QV, K x G → ei γ G E K) (hit : items x G = some all) (hl : all.length ≤ SZ)
    (he : ∀ w ∈ all, ∀ (G' : Gh) (K : QV), Le G G' → K (f w) G' → e (put (wipe γ vs) j w) G' X0 K) (k : ∀ p, G p = none → Q (.ref p) (up G p (.lst (all.map f)))) : eLc (iVal ei) (gName j) tYes e vs γ G E Q := by
  simp only [eLc, iVal]
  refine hx _ ⟨by rw [hit]; rfl, fun D hD => ⟨all, items_new hit hD, ?_⟩⟩
  refine lcL_map f (fun acc => items_new hit hD) (fun w hw acc K hK => he w hw _ K (.up hD) hK) all [] (fun w h => h) (by simpa using hl) ?_
  simpa using k D hD
/-- .. over the signs of a text -/
theorem lc_str {ei e : TE} {j : Nat} {vs : List Nat} {s : List Nat} {f : Nat → W} {γ : Fr} {G : Gh} {E : XQ} {Q : QV} (hx : ∀ K : QV, K (.str s) G → ei γ G E K) (hl : s.length ≤ SZ)
    (he : ∀ c ∈ s, ∀ (G' : Gh) (K : QV), Le G G' → K (f c) G' → e (put (wipe γ vs) j (.str [c])) G' X0 K) (k : ∀ p, G p = none → Q (.ref p) (up G p (.lst (s.map f)))) : eLc (iVal ei) (gName j) tYes e vs γ G E Q := by
  refine lc_val (x := .str s) (all := s.map fun c => W.str [c]) (f := fun w => match w with | .str [c] => f c | w => w) hx rfl (by simpa using hl) (fun w hw G' K l hK => ?_) fun p hp => ?_
  · obtain ⟨c, hc, rfl⟩ := List.mem_map.mp hw
    exact he c hc G' K l hK
  · rw [List.map_map]
    exact k p hp
/-- [e for j in x if t], t and e change nothing -/
theorem lc_valF {ei e : TE} {t : TT} {j : Nat} {vs : List Nat} {x : W} {all : List W} {q : W → Bool} {f : W → W} {γ : Fr} {G : Gh} {E : XQ} {Q : QV} (hx : ∀ K : QV, K x G → ei γ G E K) (hit : items x G = some all) (hl : all.length ≤ SZ)
    (ht : ∀ w ∈ all, ∀ (G' : Gh) (K : Bool → Gh → Prop), Le G G' → K (q w) G' → t (put (wipe γ vs) j w) G' X0 K)
    (he : ∀ w ∈ all, q w = true → ∀ (G' : Gh) (K : QV), Le G G' → K (f w) G' → e (put (wipe γ vs) j w) G' X0 K) (k : ∀ p, G p = none → Q (.ref p) (up G p (.lst ((all.filter q).map f)))) : eLc (iVal ei) (gName j) t e vs γ G E Q := by
  simp only [eLc, iVal]
  refine hx _ ⟨by rw [hit]; rfl, fun D hD => ⟨all, items_new hit hD, ?_⟩⟩
  refine lcL_filter q f (fun acc => items_new hit hD) (fun w hw acc K hK => ht w hw _ K (.up hD) hK) (fun w hw hq acc K hK => he w hw hq _ K (.up hD) hK) all [] (fun w h => h) (by simpa using hl) ?_
  simpa using k D hD
/-- .. e may make new objects -/
theorem lc_valL {ei e : TE} {j : Nat} {vs : List Nat} {x : W} {all : List W} {f : W → W} {γ : Fr} {G : Gh} {E : XQ} {Q : QV} (hx : ∀ K : QV, K x G → ei γ G E K) (hit : items x G = some all) (hl : all.length ≤ SZ)
    (he : ∀ w ∈ all, ∀ (G' : Gh) (K : QV), Le G G' → (∀ G2, Le G' G2 → K (f w) G2) → e (put (wipe γ vs) j w) G' X0 K) (k : ∀ p G', G p = none → Le G G' → G' p = some (.lst (all.map f)) → Q (.ref p) G') : eLc (iVal ei) (gName j) tYes e vs γ G E Q := by
  simp only [eLc, iVal]
  refine hx _ ⟨by rw [hit]; rfl, fun D hD => ⟨all, items_new hit hD, ?_⟩⟩
  refine lcL_ind (fun r acc G' => ∃ n, n ≤ all.length ∧ r = all.drop n ∧ acc = (all.take n).map f ∧ Le G G' ∧ G' D = some (.lst acc)) (fun r acc G' ⟨n, _, _, _, l, e1⟩ => ⟨items_le hit l, e1⟩) ?_ ?_ _ _ _ ⟨0, Nat.zero_le _, rfl, rfl, .up hD, up_same⟩
  · rintro acc G' ⟨n, hn, hr, rfl, l, e1⟩
    have : all.length ≤ n := List.drop_eq_nil_iff.mp hr.symm
    rw [List.take_of_length_le this] at e1
    exact k D G' hD l e1
  · rintro w r acc G' ⟨n, hn, hr, rfl, l, e1⟩ F hF
    have hlt : n < all.length := by
      have := congrArg List.length hr
      simp at this; omega
    rw [List.drop_eq_getElem_cons hlt, List.cons.injEq] at hr
    obtain ⟨rfl, rfl⟩ := hr
    simp only [gName, tYes, if_true]
    refine he _ (List.getElem_mem hlt) G' _ l fun G2 l2 => ⟨l2 _ _ e1, by rw [List.length_map, List.length_take]; omega, hF _ _ ⟨n + 1, hlt, rfl, ?_, (l.trans l2).upd hD, up_same⟩⟩
    rw [List.take_add_one, List.getElem?_eq_getElem hlt, List.map_append]
    rfl
/-- the values of all, if none fails -/
def allM (f : W → Option W) : List W → Option (List W)
  | [] => some []
  | w :: r => (match f w with
    | some x => (allM f r).map (x :: ·)
    | none => none)
/-- [e for g in i], behind i: e hands back f of what is walked, or raises, and changes nothing of what stands -/
theorem lcx_run {g : TG} {e : TE} {vs : List Nat} {J : It} {all : List W} {f : W → Option W} {γ : Fr} {G : Gh} {E : XQ} {Q : QV} {C : W} (hJ : ∀ G', Le G G' → J G' = some all) (hl : all.length ≤ SZ)
    (hs : ∀ w ∈ all, ∀ (G' : Gh) (K : QV), Le G G' → (∀ v, f w = some v → ∀ G2, Le G' G2 → K v G2) → (f w = none → ∀ G2, Le G' G2 → E C [] G2) → g w (wipe γ vs) G' fun γ2 G2 => e γ2 G2 E K)
    (kE : allM f all = none → ∀ G', Le G G' → E C [] G') (k : ∀ p us G', allM f all = some us → G p = none → Le G G' → G' p = some (.lst us) → Q (.ref p) G') :
    ∀ D, G D = none → ∃ all, J (up G D (.lst [])) = some all ∧ lcL J all g tYes e (wipe γ vs) D E Q all [] (up G D (.lst [])) := by
  refine fun D hD => ⟨all, hJ _ (.up hD), ?_⟩
  have key : ∀ (r acc : List W) (G1 : Gh), (∀ w ∈ r, w ∈ all) → acc.length + r.length ≤ SZ → Le G G1 → G1 D = some (.lst acc) → (allM f r = none → allM f all = none) → (∀ us, allM f r = some us → allM f all = some (acc ++ us)) → lcL J all g tYes e (wipe γ vs) D E Q r acc G1 := by
    intro r
    induction r with
    | nil => intro acc G1 hm hz le e1 h1 h2; exact ⟨hJ G1 le, e1, k D acc G1 (by simpa using h2 [] rfl) hD le e1⟩
    | cons w r ih =>
      intro acc G1 hm hz le e1 h1 h2
      refine ⟨hJ G1 le, e1, ?_⟩
      have fin := hs w (hm w (by simp)) G1 (fun y G4 => G4 D = some (.lst acc) ∧ acc.length < SZ ∧ lcL J all g tYes e (wipe γ vs) D E Q r (acc ++ [y]) (up G4 D (.lst (acc ++ [y])))) le
        (fun v hv G2 l2 => ⟨l2 _ _ e1, by rw [List.length_cons] at hz; omega, ih (acc ++ [v]) _ (fun z hzz => hm z (by simp [hzz])) (by simp only [List.length_cons, List.length_append, List.length_nil] at hz ⊢; omega) ((le.trans l2).upd hD) up_same
          (fun q => h1 (by unfold allM; rw [hv, q]; rfl)) (fun us q => by rw [h2 (v :: us) (by unfold allM; rw [hv, q]; rfl)]; simp)⟩)
        (fun hn G2 l2 => kE (h1 (by unfold allM; rw [hn])) G2 (le.trans l2))
      exact fin
  exact key all [] _ (fun w h => h) (by simpa using hl) (.up hD) up_same (fun h => h) (fun us h => by simpa using h)
theorem splitN_mem {c : Nat} : ∀ {s w : List Nat}, w ∈ splitN c s → (∀ x ∈ w, x ∈ s ∧ x ≠ c) ∧ w.length ≤ s.length
  | [], w, h => by
    simp only [splitN, List.mem_singleton] at h
    subst h
    exact ⟨fun x h => (by cases h), Nat.le_refl _⟩
  | d :: r, w, h => by
    rw [splitN_cons] at h
    split at h
    · rename_i e
      rcases List.mem_cons.mp h with rfl | h
      · exact ⟨fun x h => (by cases h), Nat.zero_le _⟩
      · obtain ⟨h1, h2⟩ := splitN_mem h
        exact ⟨fun x hx => ⟨List.mem_cons_of_mem _ (h1 x hx).1, (h1 x hx).2⟩, by rw [List.length_cons]; omega⟩
    · rename_i e
      cases q : splitN c r with
      | nil => exact absurd q (splitN_ne c r)
      | cons p ps =>
        rw [q] at h
        simp only [consH] at h
        rcases List.mem_cons.mp h with rfl | h
        · obtain ⟨h1, h2⟩ := splitN_mem (c := c) (s := r) (w := p) (by rw [q]; simp)
          refine ⟨fun x hx => ?_, by simp only [List.length_cons]; omega⟩
          rcases List.mem_cons.mp hx with rfl | hx
          · exact ⟨by simp, e⟩
          · exact ⟨List.mem_cons_of_mem _ (h1 x hx).1, (h1 x hx).2⟩
        · obtain ⟨h1, h2⟩ := splitN_mem (c := c) (s := r) (w := w) (by rw [q]; simp [h])
          exact ⟨fun x hx => ⟨List.mem_cons_of_mem _ (h1 x hx).1, (h1 x hx).2⟩, by rw [List.length_cons]; omega⟩
theorem splitN_length {c : Nat} : ∀ s : List Nat, (splitN c s).length ≤ s.length + 1
  | [] => by simp [splitN]
  | d :: r => by
    have ih := splitN_length (c := c) r
    rw [splitN_cons]
    split
    · simp only [List.length_cons]; omega
    · cases q : splitN c r with
      | nil => exact absurd q (splitN_ne c r)
      | cons p ps => rw [q] at ih; simp only [consH, List.length_cons] at ih ⊢; omega
theorem splitN_no {c : Nat} : ∀ {s : List Nat}, c ∉ s → splitN c s = [s]
  | [], _ => rfl
  | d :: r, h => by
    rw [splitN_cons, if_neg (fun e => h (by rw [e]; simp)), splitN_no (fun z => h (List.mem_cons_of_mem _ z))]
    rfl
theorem splitN_app {c : Nat} : ∀ {s r : List Nat}, c ∉ s → splitN c (s ++ c :: r) = s :: splitN c r
  | [], r, _ => by rw [List.nil_append, splitN_cons, if_pos rfl]
  | d :: s, r, h => by
    rw [List.cons_append, splitN_cons, if_neg (fun e => h (by rw [e]; simp)), splitN_app (fun z => h (List.mem_cons_of_mem _ z))]
    rfl
theorem lookS_mem {d : KD} {k : List Nat} {v : W} (h : lookS d k = some v) : (k, v) ∈ d := by
  induction d with
  | nil => cases h
  | cons p r ih =>
    unfold lookS at h
    split at h
    · rename_i e
      cases h
      subst e
      exact List.mem_cons_self
    · exact List.mem_cons_of_mem _ (ih h)
/-! ### slices -/
theorem cut_from_ {α : Type} (xs : List α) {i : Int} (n : Nat) (e : i = (n : Int) := by rfl) : cut xs (some i) none = xs.drop n := by
  subst e
  unfold cut lo_ hi_ clip
  simp only
  rw [if_pos (by omega), Int.toNat_natCast, List.take_of_length_le (by rw [List.length_drop]; omega)]
  by_cases q : n ≤ xs.length
  · rw [Nat.min_eq_left q]
  · rw [Nat.min_eq_right (by omega), List.drop_of_length_le (by omega), List.drop_of_length_le (by omega)]
theorem cut_to_ {α : Type} (xs : List α) {i : Int} (n : Nat) (e : i = (n : Int) := by rfl) : cut xs none (some i) = xs.take n := by
  subst e
  unfold cut lo_ hi_ clip
  simp only
  rw [if_pos (by omega), Int.toNat_natCast, List.drop_zero, Nat.sub_zero]
  by_cases q : n ≤ xs.length
  · rw [Nat.min_eq_left q]
  · rw [Nat.min_eq_right (by omega), List.take_of_length_le (by omega), List.take_of_length_le (by omega)]
theorem cut_two {α : Type} (xs : List α) {i j : Int} (n m : Nat) (e : i = (n : Int) := by rfl) (e2 : j = (m : Int) := by rfl) : cut xs (some i) (some j) = (xs.take m).drop n := by
  subst e e2
  unfold cut lo_ hi_ clip
  simp only
  rw [if_pos (by omega), if_pos (by omega), Int.toNat_natCast, Int.toNat_natCast, List.drop_take]
  by_cases q : n ≤ xs.length
  · rw [Nat.min_eq_left (show n ≤ xs.length from q)]
    by_cases q2 : m ≤ xs.length
    · rw [Nat.min_eq_left q2]
    · rw [Nat.min_eq_right (by omega), List.take_of_length_le (by rw [List.length_drop]; omega), List.take_of_length_le (by rw [List.length_drop]; omega)]
  · rw [Nat.min_eq_right (show xs.length ≤ n by omega), List.drop_of_length_le (Nat.le_refl _), List.drop_of_length_le (by omega), List.take_nil, List.take_nil]
theorem cut_init {α : Type} (xs : List α) : cut xs none (some (-1)) = xs.dropLast := by
  unfold cut lo_ hi_ clip
  simp only
  rw [if_neg (by omega), List.drop_zero, Nat.sub_zero, show (-(-1 : Int)).toNat = 1 from rfl, List.dropLast_eq_take]
theorem cut_inner {α : Type} (xs : List α) (h : 2 ≤ xs.length) : cut xs (some 1) (some (-1)) = xs.tail.dropLast := by
  unfold cut lo_ hi_ clip
  dsimp only
  rw [if_neg (by decide), if_pos (by decide), show Int.toNat 1 = 1 from rfl, show (-(-1 : Int)).toNat = 1 from rfl, Nat.min_eq_left (by omega), List.dropLast_eq_take, List.length_tail, List.drop_one]
/-! ### one step of a reading, the rest kept folded -/
section
variable {γ : Fr} {G : Gh} {E : XQ}
theorem aCons_i {e : TE} {r : TA} {Q : List W → Gh → Prop} (h : e γ G E fun x G1 => r γ G1 E fun xs G2 => Q (x :: xs) G2) : aCons e r γ G E Q := h
theorem aConsC_i {w : W} {r : TA} {Q : List W → Gh → Prop} (h : r γ G E fun xs G2 => Q (w :: xs) G2) : aCons (eC w) r γ G E Q := h
theorem aConsV_i {i : Nat} {w : W} {r : TA} {Q : List W → Gh → Prop} (e : get γ i = some w) (h : r γ G E fun xs G2 => Q (w :: xs) G2) : aCons (eVar i) r γ G E Q := by
  simp only [aCons, eVar, e]; exact h
theorem aNil_i {Q : List W → Gh → Prop} (h : Q [] G) : aNil γ G E Q := h
theorem eTup_i {a : TA} {Q : QV} (h : a γ G E fun ws G1 => ws.length ≤ SZ ∧ Q (.tup ws) G1) : eTup a γ G E Q := h
theorem eLst_i {a : TA} {Q : QV} (h : a γ G E fun ws G1 => ws.length ≤ SZ ∧ ∀ p, G1 p = none → Q (.ref p) (up G1 p (.lst ws))) : eLst a γ G E Q := h
theorem eOp_i {r : R2} {a b : TE} {Q : QV} (h : a γ G E fun x G1 => b γ G1 E fun y G2 => r x y G2 Q) : eOp r a b γ G E Q := h
theorem eBlt_i {r : List W → Gh → QV → Prop} {a : TA} {Q : QV} (h : a γ G E fun ws G1 => r ws G1 Q) : eBlt r a γ G E Q := h
theorem eCall_i {sp : Sp} {a : TA} {Q : QV} (h : a γ G E fun ws G1 => sp ws G1 Q E) : eCall sp a γ G E Q := h
theorem eVar_i {i : Nat} {w : W} {Q : QV} (e : get γ i = some w) (h : Q w G) : eVar i γ G E Q := by simp only [eVar, e]; exact h
theorem eBm_i {T : String} {r : W → List W → Gh → QV → Prop} {o : TE} {a : TA} {x : W} {Q : QV} (h1 : ∀ K : QV, K x G → o γ G E K) (h2 : tyW T x G) (h3 : a γ G E fun ws G2 => r x ws G2 Q) : eBm T r o a γ G E Q := h1 _ ⟨h2, h3⟩
end
section
variable {D : Ends} {γ : Fr} {G : Gh}
theorem sSeq_i {t u : TS} (h : t { D with nx := u D } γ G) : sSeq t u D γ G := h
theorem sSet_i {i : Nat} {e : TE} (h : e γ G (D.ex γ) fun x G1 => D.nx (put γ i x) G1) : sSet i e D γ G := h
theorem sDrop_i {e : TE} (h : e γ G (D.ex γ) fun _ G1 => D.nx γ G1) : sDrop e D γ G := h
theorem sRet_i {e : TE} (h : e γ G (D.ex γ) D.rt) : sRet e D γ G := h
theorem sIf_i {c : TT} {t u : TS} (h : c γ G (D.ex γ) fun k G1 => if k = true then t D γ G1 else u D γ G1) : sIf c t u D γ G := h
end
end L3

end
section
/-! L3Mode (C): what is known of an exception in the air: its class and its fields. -/
namespace L3
open PySem PySem.Spec PyProof.Rows L2
abbrev TkM (X : Cx) (W : WX) : Prop := L2.Takes X W
abbrev CXM (P : Program) (w : World) := L2.CX P w
def HotM (X : Cx) : Prop := True
section
variable {X : Cx} {W Wout : WX}
theorem tkM_imp {W' : WX} (t : TkM X W) (h : ∀ c d σ H, W' c d σ H → W c d σ H) : TkM X W' := Takes.imp t h
theorem tkM_call {pins : List (Addr × Obj)} {σ : L2.St} {H : Hp} {s s' : Shared} {E : XK} {u : Value} (tk : TkM X W) (I : Inv X pins σ H s) (hW : ∀ cls d H', E cls d H' → W cls d σ H') (c : CXM X.prog X.w X.stack H s E u s') : X.xe u s' := tk _ _ (XE.of_call I hW c)
theorem tkM_of {E : XK} (hs : X.stack = X.env :: X.outer) (hf : X.env.frame = some X.env.locals) (hex : X.ex = []) {E₁ : Value → Shared → Prop}
    (hx : X.xe = fun e s' => wpAny (model X.prog X.w) X.A (leaving X.env e) (fun _ s'' => CXM X.prog X.w X.outer X.H_0 X.s_0 E e s'') E₁ s') : TkM X (fun cls d _ H => E cls d H) := takes_of hs hf hex hx
theorem ps_raiseM {x m : Str} {C : Addr} {B newId initId : String} {bm : List Value} {j : Nat} {p p2 cpos pos : Pos} (hc : X.calm = true) (tk : TkM X W) (F : ExcBaseFacts B newId initId bm) (q : PySem.W.excIn X.K C bm newId = true) (gC : X.mg x = some (.ref C)) (kC : PySem.W.keepIn X.K (.ref C) = true) (r : Raises X (.ref C)) (hg : Gl X x)
    (hdb : (x == ("__debug__" : Str)) = false) : PS X (.Raise (some (.Call (.Name x p) [.Constant (.str m) j p2] [] cpos)) none pos) (fun _ σ H => W (.ref C) none σ H) := ps_raise hc tk (pmk_own F q gC kC r hg hdb)
variable {x n : Str} {c : Value} {i : Nat} {body suite : List Stmt} {b₀ : Stmt} {np pos pos' : Pos} {tb : WX → L2.TS} {ts : Addr → Value → Option Addr → L2.TS}
theorem ps_tryM (hs : X.stack = X.env :: X.outer) (hf : X.env.frame = some X.env.locals) (hc : Names X x c) (tk : TkM X Wout)
    (hb : ∀ (W : WX) (pn : List (Addr × Obj)) (xe : Value → Shared → Prop), TkM (X.tr pn xe) W → PassesOwn (model X.prog X.w) X.A X.env xe → PSs (X.tr pn xe) body (tb W))
    (hsu : ∀ (a : Addr) (oe : Obj) (cls : Value) (d : Option Addr) (pn : List (Addr × Obj)), Zc cls d oe → (∃ vs, oe.data = .fields vs) → HotM (X.suite a ((a, oe) :: pn)) → PSs (X.suite a ((a, oe) :: pn)) (b₀ :: suite) (ts a cls d)) :
    PS X (.Try body [.ExceptHandler (some (.Name x np)) none (b₀ :: suite) pos'] [] [] pos) (fun D σ H => tb (wOnly X.K c ts Wout D) D σ H) :=
  ps_try_only hs hf hc tk hb fun a oe cls d pn hz hv => hsu a oe cls d pn hz hv trivial
theorem ps_tryAsM (hs : X.stack = X.env :: X.outer) (hf : X.env.frame = some X.env.locals) (hN : X.N.Nodup) (hi : X.N[i]? = some n) (hln : X.env.kindOf n = some .local) (hc : Names X x c) (tk : TkM X Wout)
    (hb : ∀ (W : WX) (pn : List (Addr × Obj)) (xe : Value → Shared → Prop), TkM (X.tr pn xe) W → PassesOwn (model X.prog X.w) X.A X.env xe → PSs (X.tr pn xe) body (tb W))
    (hsu : ∀ (a : Addr) (oe : Obj) (cls : Value) (d : Option Addr) (pn : List (Addr × Obj)), Zc cls d oe → (∃ vs, oe.data = .fields vs) → HotM (X.suite a ((a, oe) :: pn)) → PSs (X.suite a ((a, oe) :: pn)) (b₀ :: suite) (ts a cls d)) :
    PS X (.Try body [.ExceptHandler (some (.Name x np)) (some n) (b₀ :: suite) pos'] [] [] pos) (fun D σ H => tb (wAs X.K c i ts Wout D) D σ H) :=
  ps_try_as hs hf hN hi hln hc tk hb fun a oe cls d pn hz hv => hsu a oe cls d pn hz hv trivial
end
end L3

end
section
/-! L3SndA: values with tuples by value, the heap of what can change, judgements over the hand layer's. -/
namespace L3
open PySem PySem.Spec PyProof.Rows L2

abbrev Frag := PySem.W.Frag

mutual
def Rep (K : Frag) (H : Hp) : W → V → Prop
  | .non, v => v = .non
  | .bl b, v => v = .bl b
  | .int i, v => v = .int i
  | .str x, v => v = .str ⟨x.toArray⟩
  | .ref a, v => v = .ref a
  | .ty n, v => v = .ty n
  | .tup ws, v => ∃ a xs, v = .ref a ∧ H a = some (.tup xs) ∧ RepL K H ws xs
  | .ktp ws, v => ∃ a xs, v = .ref a ∧ SqT K (fun _ => none) a xs ∧ RepL K H ws xs
  | .kl ws, v => ∃ a xs, v = .ref a ∧ SqL K (fun _ => none) a xs ∧ RepL K H ws xs
def RepL (K : Frag) (H : Hp) : List W → List V → Prop
  | [], vs => vs = []
  | w :: ws, vs => ∃ v r, vs = v :: r ∧ Rep K H w v ∧ RepL K H ws r
end

/-- every tuple that could be read can be read still -/
def Ext (K : Frag) (H H' : Hp) : Prop := ∀ a xs, (SqT K H a xs → SqT K H' a xs) ∧ (H a = some (.tup xs) → H' a = some (.tup xs)) ∧ ∀ o u, H a = some (.frz o u) → H' a = some (.frz o u)
section
variable {K : Frag} {H H1 H2 : Hp}
theorem Ext.refl : Ext K H H := fun _ _ => ⟨fun h => h, fun h => h, fun _ _ h => h⟩
theorem Ext.trans (a : Ext K H H1) (b : Ext K H1 H2) : Ext K H H2 := fun c xs => ⟨fun h => (b c xs).1 ((a c xs).1 h), fun h => (b c xs).2.1 ((a c xs).2.1 h), fun o u h => (b c xs).2.2 o u ((a c xs).2.2 o u h)⟩
theorem Ext.new {p : Addr} {o : HO} (hp : H p = none) : Ext K H (upd H p o) := fun a xs => by
  refine ⟨fun h => ?_, fun h => by rw [upd_ne (fun z => by rw [z, hp] at h; cases h)]; exact h, fun o u h => by rw [upd_ne (fun z => by rw [z, hp] at h; cases h)]; exact h⟩
  have ne : ∀ u, H a = some u → a ≠ p := fun u e z => by rw [z, hp] at e; cases e
  rcases h with (h | ⟨o, h⟩) | h
  · exact .inl (.inl (by rw [upd_ne (ne _ h)]; exact h))
  · exact .inl (.inr ⟨o, by rw [upd_ne (ne _ h)]; exact h⟩)
  · exact .inr h
theorem Ext.write {p : Addr} {o : HO} (hp : Mut (H p)) : Ext K H (upd H p o) := fun a xs => by
  refine ⟨fun h => ?_, fun h => by rw [upd_ne (fun z => by rw [← z, h] at hp; exact hp)]; exact h, fun o u h => by rw [upd_ne (fun z => by rw [← z, h] at hp; exact hp)]; exact h⟩
  have ne : ∀ u, H a = some u → ¬ Mut (some u) → a ≠ p := fun u e n z => by rw [← z, e] at hp; exact n hp
  rcases h with (h | ⟨o, h⟩) | h
  · exact .inl (.inl (by rw [upd_ne (ne _ h fun z => z)]; exact h))
  · exact .inl (.inr ⟨o, by rw [upd_ne (ne _ h fun z => z)]; exact h⟩)
  · exact .inr h
/-- the tracked tuples stay -/
def KpT (H H1 : Hp) : Prop := ∀ a xs, H a = some (.tup xs) → H1 a = some (.tup xs)
theorem Ext.t (x : Ext K H H1) : KpT H H1 := fun a xs => (x a xs).2.1
mutual
theorem Rep.extT (x : KpT H H1) : ∀ {w : W} {v : V}, Rep K H w v → Rep K H1 w v
  | .non, _, h => by simpa only [Rep] using h
  | .bl _, _, h => by simpa only [Rep] using h
  | .int _, _, h => by simpa only [Rep] using h
  | .str _, _, h => by simpa only [Rep] using h
  | .ref _, _, h => by simpa only [Rep] using h
  | .ty _, _, h => by simpa only [Rep] using h
  | .tup ws, _, h => by
    simp only [Rep] at h ⊢
    obtain ⟨a, xs, e, s, r⟩ := h
    exact ⟨a, xs, e, x a xs s, RepL.extT x r⟩
  | .ktp ws, _, h => by
    simp only [Rep] at h ⊢
    obtain ⟨a, xs, e, s, r⟩ := h
    exact ⟨a, xs, e, s, RepL.extT x r⟩
  | .kl ws, _, h => by
    simp only [Rep] at h ⊢
    obtain ⟨a, xs, e, s, r⟩ := h
    exact ⟨a, xs, e, s, RepL.extT x r⟩
theorem RepL.extT (x : KpT H H1) : ∀ {ws : List W} {vs : List V}, RepL K H ws vs → RepL K H1 ws vs
  | [], _, h => by simpa only [RepL] using h
  | w :: ws, _, h => by
    simp only [RepL] at h ⊢
    obtain ⟨v, r, e, a, b⟩ := h
    exact ⟨v, r, e, Rep.extT x a, RepL.extT x b⟩
end
theorem Rep.ext (x : Ext K H H1) {w : W} {v : V} (h : Rep K H w v) : Rep K H1 w v := h.extT x.t
theorem RepL.ext (x : Ext K H H1) {ws : List W} {vs : List V} (h : RepL K H ws vs) : RepL K H1 ws vs := RepL.extT x.t h
theorem RepL.cons {w : W} {ws : List W} {v : V} {vs : List V} (a : Rep K H w v) (b : RepL K H ws vs) : RepL K H (w :: ws) (v :: vs) := by
  simp only [RepL]; exact ⟨v, vs, rfl, a, b⟩
theorem RepL.nil : RepL K H [] [] := by simp only [RepL]
theorem RepL.length : ∀ {ws : List W} {vs : List V}, RepL K H ws vs → ws.length = vs.length
  | [], _, h => by simp only [RepL] at h; subst h; rfl
  | w :: ws, _, h => by
    simp only [RepL] at h
    obtain ⟨v, r, e, a, b⟩ := h
    subst e
    simp only [List.length_cons, RepL.length b]
theorem RepL.get : ∀ {ws : List W} {vs : List V} {i : Nat} {w : W}, RepL K H ws vs → ws[i]? = some w → ∃ v, vs[i]? = some v ∧ Rep K H w v
  | [], _, i, w, h, e => by simp at e
  | w :: ws, _, 0, w', h, e => by
    simp only [RepL] at h
    obtain ⟨v, r, e', a, b⟩ := h
    subst e'
    simp at e
    subst e
    exact ⟨v, rfl, a⟩
  | w :: ws, _, i + 1, w', h, e => by
    simp only [RepL] at h
    obtain ⟨v, r, e', a, b⟩ := h
    subst e'
    obtain ⟨v', h1, h2⟩ := RepL.get (i := i) b (by simpa using e)
    exact ⟨v', by simpa using h1, h2⟩
theorem RepL.append : ∀ {ws zs : List W} {vs us : List V}, RepL K H ws vs → RepL K H zs us → RepL K H (ws ++ zs) (vs ++ us)
  | [], _, _, _, h, h' => by simp only [RepL] at h; subst h; exact h'
  | w :: ws, _, _, _, h, h' => by
    simp only [RepL] at h
    obtain ⟨v, r, e, a, b⟩ := h
    subst e
    exact RepL.cons a (RepL.append b h')
theorem RepL.one {w : W} {v : V} (a : Rep K H w v) : RepL K H [w] [v] := .cons a .nil
theorem RepL.drop : ∀ {ws : List W} {vs : List V} (n : Nat), RepL K H ws vs → RepL K H (ws.drop n) (vs.drop n)
  | ws, vs, 0, h => by simpa using h
  | [], _, _ + 1, h => by simp only [RepL] at h; subst h; exact .nil
  | w :: ws, _, n + 1, h => by
    simp only [RepL] at h
    obtain ⟨v, r, e, a, b⟩ := h
    subst e
    exact RepL.drop n b
theorem RepL.take : ∀ {ws : List W} {vs : List V} (n : Nat), RepL K H ws vs → RepL K H (ws.take n) (vs.take n)
  | ws, vs, 0, h => by simp only [List.take_zero]; exact .nil
  | [], _, _ + 1, h => by simp only [RepL] at h; subst h; exact .nil
  | w :: ws, _, n + 1, h => by
    simp only [RepL] at h
    obtain ⟨v, r, e, a, b⟩ := h
    subst e
    exact .cons a (RepL.take n b)
theorem RepL.set : ∀ {ws : List W} {vs : List V} {w : W} {v : V} (i : Nat), RepL K H ws vs → Rep K H w v → RepL K H (ws.set i w) (vs.set i v)
  | [], _, _, _, _, h, _ => by simp only [RepL] at h; subst h; exact .nil
  | w :: ws, _, _, _, 0, h, q => by
    simp only [RepL] at h
    obtain ⟨v, r, e, a, b⟩ := h
    subst e
    exact .cons q b
  | w :: ws, _, _, _, i + 1, h, q => by
    simp only [RepL] at h
    obtain ⟨v, r, e, a, b⟩ := h
    subst e
    exact .cons a (RepL.set i b q)
theorem RepL.reverse : ∀ {ws : List W} {vs : List V}, RepL K H ws vs → RepL K H ws.reverse vs.reverse
  | [], _, h => by simp only [RepL] at h; subst h; exact .nil
  | w :: ws, _, h => by
    simp only [RepL] at h
    obtain ⟨v, r, e, a, b⟩ := h
    subst e
    rw [List.reverse_cons, List.reverse_cons]
    exact RepL.append (RepL.reverse b) (.one a)
theorem RepL.dropLast {ws : List W} {vs : List V} (h : RepL K H ws vs) : RepL K H ws.dropLast vs.dropLast := by
  rw [List.dropLast_eq_take, List.dropLast_eq_take, h.length]
  exact h.take _
theorem RepL.eraseIdx : ∀ {ws : List W} {vs : List V} (i : Nat), RepL K H ws vs → RepL K H (ws.eraseIdx i) (vs.eraseIdx i)
  | [], _, _, h => by simp only [RepL] at h; subst h; exact .nil
  | w :: ws, _, 0, h => by
    simp only [RepL] at h
    obtain ⟨v, r, e, a, b⟩ := h
    subst e
    exact b
  | w :: ws, _, i + 1, h => by
    simp only [RepL] at h
    obtain ⟨v, r, e, a, b⟩ := h
    subst e
    exact .cons a (RepL.eraseIdx i b)
theorem RepL.ints : ∀ {ns : List Int} {vs : List V}, RepL K H (ns.map W.int) vs → vs = ns.map V.int
  | [], _, h => by simpa only [RepL, List.map_nil] using h
  | n :: ns, _, h => by
    simp only [RepL, List.map_cons, Rep] at h
    obtain ⟨v, r, e, a, b⟩ := h
    subst e a
    rw [RepL.ints b]; rfl
theorem RepL.of_ints : ∀ {ns : List Int}, RepL K H (ns.map W.int) (ns.map V.int)
  | [] => .nil
  | n :: ns => .cons (by simp only [Rep]) RepL.of_ints
theorem RepL.bools : ∀ {ns : List Bool} {vs : List V}, RepL K H (ns.map W.bl) vs → vs = ns.map V.bl
  | [], _, h => by simpa only [RepL, List.map_nil] using h
  | n :: ns, _, h => by
    simp only [RepL, List.map_cons, Rep] at h
    obtain ⟨v, r, e, a, b⟩ := h
    subst e a
    rw [RepL.bools b]; rfl
def S (l : List Nat) : Str := ⟨l.toArray⟩
theorem RepL.strs : ∀ {ns : List (List Nat)} {vs : List V}, RepL K H (ns.map W.str) vs → vs = (ns.map S).map V.str
  | [], _, h => by simpa only [RepL, List.map_nil] using h
  | n :: ns, _, h => by
    simp only [RepL, List.map_cons, Rep] at h
    obtain ⟨v, r, e, a, b⟩ := h
    subst e a
    rw [RepL.strs b]; rfl
end

/-! ### strings as lists of codes -/
theorem S_length (l : List Nat) : (S l).length = l.length := by simp [S, Str.length]
theorem S_append (l m : List Nat) : S l ++ S m = S (l ++ m) := by
  show Str.append _ _ = _
  simp [S, Str.append]
theorem S_inj {l m : List Nat} (h : S l = S m) : l = m := by
  unfold S at h
  injection h with h
  simpa using congrArg Array.toList h
theorem S_inj_iff {l m : List Nat} : S l = S m ↔ l = m := ⟨S_inj, fun h => by rw [h]⟩
theorem S_toList (l : List Nat) : (S l).cps.toList = l := by simp [S]
theorem S_of (x : Str) : S x.cps.toList = x := by cases x; simp [S]

/-! ### the heap -/
def keyW : Key → W
  | .inl i => .int i
  | .inr x => .str x.cps.toList
def RepKV {κ : Type} (f : κ → W) (K : Frag) (H : Hp) : List (W × W) → List (κ × V) → Prop
  | [], vs => vs = []
  | w :: ws, vs => ∃ v r, vs = v :: r ∧ w.1 = f v.1 ∧ Rep K H w.2 v.2 ∧ RepKV f K H ws r
def RepF (K : Frag) (H : Hp) (ns : List (List Nat)) (ws : List W) (fs : List (Str × V)) : Prop :=
  fs.map (·.1) = (ns.map S).take ws.length ∧ RepL K H ws (fs.map (·.2)) ∧ ws.length ≤ ns.length ∧ ns.Nodup

def RelO (K : Frag) (H : Hp) (a : Addr) : O → Prop
  | .lst ws => ∃ xs, H a = some (.lst xs) ∧ RepL K H ws xs
  | .dct kvs => ∃ ks, H a = some (.dK ks) ∧ RepKV keyW K H kvs ks
  | .dtt kvs => ∃ ks, H a = some (.dT ks) ∧ RepKV (fun k => W.tup (k.map keyW)) K H kvs ks
  | .ins C ns ws => ∃ dx fs, H a = some (.ins C dx fs) ∧ RepF K H ns ws fs
  | .rdl ws => ∃ o xs, H a = some (.frz o (.lst xs)) ∧ RepL K H ws xs
  | .exo _ _ _ => False
  | .rdc kvs => ∃ o ks, H a = some (.frz o (.dK ks)) ∧ RepKV keyW K H kvs ks
  | .rdt kvs => ∃ o ks, H a = some (.frz o (.dT ks)) ∧ RepKV (fun k => W.tup (k.map keyW)) K H kvs ks
def Rel (K : Frag) (H : Hp) (G : Gh) : Prop := ∀ a o, G a = some o → RelO K H a o
section
variable {K : Frag} {H H1 : Hp} {G : Gh} {a : Addr}
theorem RepKV.extT {κ : Type} {f : κ → W} (x : KpT H H1) : ∀ {ws : List (W × W)} {vs : List (κ × V)}, RepKV f K H ws vs → RepKV f K H1 ws vs
  | [], _, h => h
  | w :: ws, _, h => by
    obtain ⟨v, r, e, a, b, c⟩ := h
    exact ⟨v, r, e, a, b.extT x, RepKV.extT x c⟩
theorem RepKV.ext {κ : Type} {f : κ → W} (x : Ext K H H1) {ws : List (W × W)} {vs : List (κ × V)} (h : RepKV f K H ws vs) : RepKV f K H1 ws vs := RepKV.extT x.t h
theorem RepKV.length {κ : Type} {f : κ → W} : ∀ {ws : List (W × W)} {vs : List (κ × V)}, RepKV f K H ws vs → ws.length = vs.length
  | [], _, h => by cases h; rfl
  | w :: ws, _, h => by
    obtain ⟨v, r, rfl, a, b, c⟩ := h
    simp only [List.length_cons, RepKV.length c]
/-- an object stays what it is where its own place stays -/
theorem RelO.extT {o : O} (x : KpT H H1) (e : H1 a = H a) (h : RelO K H a o) : RelO K H1 a o := by
  cases o with
  | lst ws => obtain ⟨xs, h1, h2⟩ := h; exact ⟨xs, e.trans h1, h2.extT x⟩
  | dct kvs => obtain ⟨ks, h1, h2⟩ := h; exact ⟨ks, e.trans h1, h2.extT x⟩
  | dtt kvs => obtain ⟨ks, h1, h2⟩ := h; exact ⟨ks, e.trans h1, h2.extT x⟩
  | ins C ns ws => obtain ⟨dx, fs, h1, h2, h3, h4⟩ := h; exact ⟨dx, fs, e.trans h1, h2, h3.extT x, h4⟩
  | rdl ws => obtain ⟨o, xs, h1, h2⟩ := h; exact ⟨o, xs, e.trans h1, h2.extT x⟩
  | exo C ns ws => exact h.elim
  | rdc ws => obtain ⟨o, xs, h1, h2⟩ := h; exact ⟨o, xs, e.trans h1, h2.extT x⟩
  | rdt ws => obtain ⟨o, xs, h1, h2⟩ := h; exact ⟨o, xs, e.trans h1, h2.extT x⟩
theorem RelO.ext {o : O} (x : Ext K H H1) (e : H1 a = H a) (h : RelO K H a o) : RelO K H1 a o := h.extT x.t e
theorem RelO.dom {o : O} (h : RelO K H a o) : H a ≠ none := by
  cases o with
  | lst ws => obtain ⟨xs, h1, h2⟩ := h; rw [h1]; exact fun z => by cases z
  | dct kvs => obtain ⟨xs, h1, h2⟩ := h; rw [h1]; exact fun z => by cases z
  | dtt kvs => obtain ⟨xs, h1, h2⟩ := h; rw [h1]; exact fun z => by cases z
  | ins C ns ws => obtain ⟨dx, fs, h1, h2⟩ := h; rw [h1]; exact fun z => by cases z
  | rdl ws => obtain ⟨o, xs, h1, h2⟩ := h; rw [h1]; exact fun z => by cases z
  | exo C ns ws => exact h.elim
  | rdc ws => obtain ⟨o, xs, h1, h2⟩ := h; rw [h1]; exact fun z => by cases z
  | rdt ws => obtain ⟨o, xs, h1, h2⟩ := h; rw [h1]; exact fun z => by cases z
/-- what G tracks and is not read-only stands in H, and is mutable -/
def roO : O → Bool
  | .rdl _ => true
  | .rdc _ => true
  | .rdt _ => true
  | _ => false
theorem RelO.mut {o : O} (h : RelO K H a o) (n : roO o = false) : Mut (H a) := by
  cases o with
  | lst ws => obtain ⟨xs, h1, h2⟩ := h; rw [h1]; trivial
  | dct kvs => obtain ⟨xs, h1, h2⟩ := h; rw [h1]; trivial
  | dtt kvs => obtain ⟨xs, h1, h2⟩ := h; rw [h1]; trivial
  | ins C ns ws => obtain ⟨dx, fs, h1, h2⟩ := h; rw [h1]; trivial
  | rdl ws => cases n
  | exo C ns ws => exact h.elim
  | rdc ws => cases n
  | rdt ws => cases n
theorem Rel.write {p : Addr} {ho : HO} {o : O} (R : Rel K H G) (m : Mut (H p)) (q : RelO K (upd H p ho) p o) : Rel K (upd H p ho) (up G p o) := fun b u e => by
  by_cases hb : b = p
  · subst hb; rw [up_same] at e; cases e; exact q
  · rw [up_ne hb] at e
    exact (R b u e).ext (Ext.write m) (upd_ne hb)
theorem Rel.free {p : Addr} (R : Rel K H G) (hp : H p = none) : G p = none := by
  cases e : G p with
  | none => rfl
  | some o => exact absurd hp (R p o e).dom
theorem Rel.new {p : Addr} {ho : HO} {o : O} (R : Rel K H G) (hp : H p = none) (q : RelO K (upd H p ho) p o) : Rel K (upd H p ho) (up G p o) := fun b u e => by
  by_cases hb : b = p
  · subst hb; rw [up_same] at e; cases e; exact q
  · rw [up_ne hb] at e
    exact (R b u e).ext (Ext.new hp) (upd_ne hb)
/-- a new object that G does not track (a tuple) -/
theorem Rel.hid {p : Addr} {ho : HO} (R : Rel K H G) (hp : H p = none) : Rel K (upd H p ho) G := fun b u e => by
  have hb : b ≠ p := fun z => by rw [z, R.free hp] at e; cases e
  exact (R b u e).ext (Ext.new hp) (upd_ne hb)
theorem Rel.lst {p : Addr} {ws : List W} (R : Rel K H G) (e : G p = some (.lst ws)) : ∃ xs, H p = some (.lst xs) ∧ RepL K H ws xs := R p _ e
theorem Rel.seq {p : Addr} {ws : List W} (R : Rel K H G) (e : G p = some (.lst ws) ∨ G p = some (.rdl ws)) : ∃ xs, SqL K H p xs ∧ RepL K H ws xs := by
  rcases e with e | e
  · obtain ⟨xs, h1, h2⟩ := R p _ e; exact ⟨xs, .inl (.inl h1), h2⟩
  · obtain ⟨o, xs, h1, h2⟩ := R p _ e; exact ⟨xs, .inl (.inr ⟨o, h1⟩), h2⟩
theorem Rel.forget {G' : Gh} (R : Rel K H G) (h : ∀ a o, G' a = some o → G a = some o) : Rel K H G' := fun a o e => R a o (h a o e)
end
end L3

end
section
/-! L3SndB: the judgements of L3 over those of the hand layer; names, constants, statements, loops. -/
namespace L3
open PySem PySem.Spec PyProof.Rows L2
abbrev St := L2.St

def RepQ (K : Frag) (H : Hp) : Fr → St → Prop
  | [], σ => σ = []
  | g :: γ, σ => ∃ s r, σ = s :: r ∧ (∀ w, g = some w → ∃ v, s = some v ∧ Rep K H w v) ∧ RepQ K H γ r
section
variable {K : Frag} {H H1 : Hp}
theorem RepQ.extT (x : KpT H H1) : ∀ {γ : Fr} {σ : St}, RepQ K H γ σ → RepQ K H1 γ σ
  | [], _, h => h
  | g :: γ, _, h => by
    obtain ⟨s, r, e, a, b⟩ := h
    exact ⟨s, r, e, fun w ew => let ⟨v, e1, e2⟩ := a w ew; ⟨v, e1, e2.extT x⟩, RepQ.extT x b⟩
theorem RepQ.ext (x : Ext K H H1) {γ : Fr} {σ : St} (h : RepQ K H γ σ) : RepQ K H1 γ σ := RepQ.extT x.t h
theorem RepQ.get : ∀ {γ : Fr} {σ : St} {i : Nat} {w : W}, RepQ K H γ σ → L3.get γ i = some w → ∃ v, σ[i]? = some (some v) ∧ Rep K H w v
  | [], _, i, w, _, e => by cases i <;> cases e
  | g :: γ, _, 0, w, h, e => by
    obtain ⟨s, r, rfl, a, b⟩ := h
    obtain ⟨v, e1, e2⟩ := a w e
    exact ⟨v, by rw [e1]; rfl, e2⟩
  | g :: γ, _, i + 1, w, h, e => by
    obtain ⟨s, r, rfl, a, b⟩ := h
    obtain ⟨v, e1, e2⟩ := RepQ.get (i := i) b e
    exact ⟨v, by simpa using e1, e2⟩
theorem RepQ.put : ∀ {γ : Fr} {σ : St} {i : Nat} {w : W} {v : V}, RepQ K H γ σ → Rep K H w v → RepQ K H (L3.put γ i w) (σ.set i (some v))
  | [], _, i, w, v, h, q => by cases h; exact rfl
  | g :: γ, _, 0, w, v, h, q => by
    obtain ⟨s, r, rfl, a, b⟩ := h
    exact ⟨some v, r, rfl, fun w' e => ⟨v, rfl, by cases e; exact q⟩, b⟩
  | g :: γ, _, i + 1, w, v, h, q => by
    obtain ⟨s, r, rfl, a, b⟩ := h
    exact ⟨s, r.set i (some v), rfl, a, RepQ.put b q⟩
theorem RepQ.del : ∀ {γ : Fr} {σ : St} {i : Nat}, RepQ K H γ σ → RepQ K H (L3.del γ i) (σ.set i none)
  | [], _, i, h => by cases h; exact rfl
  | g :: γ, _, 0, h => by
    obtain ⟨s, r, rfl, a, b⟩ := h
    exact ⟨none, r, rfl, (fun w' e => nomatch e), b⟩
  | g :: γ, _, i + 1, h => by
    obtain ⟨s, r, rfl, a, b⟩ := h
    exact ⟨s, r.set i none, rfl, a, RepQ.del b⟩
theorem RepQ.wipe {γ : Fr} {σ : St} (h : RepQ K H γ σ) : ∀ vs : List Nat, RepQ K H (L3.wipe γ vs) (L2.wipe σ vs)
  | [] => h
  | v :: vs => (RepQ.wipe h vs).del
theorem RepQ.length : ∀ {γ : Fr} {σ : St}, RepQ K H γ σ → γ.length = σ.length
  | [], _, h => by cases h; rfl
  | g :: γ, _, h => by
    obtain ⟨s, r, rfl, a, b⟩ := h
    simp only [List.length_cons, RepQ.length b]
theorem RepQ.start {n : Nat} : ∀ {ws : List W} {vs : List V}, RepL K H ws vs → ∀ m, RepQ K H (ws.map some ++ List.replicate m none) (vs.map some ++ List.replicate m none)
  | [], _, h, m => by
    simp only [RepL] at h
    subst h
    induction m with
    | zero => exact rfl
    | succ m ih => exact ⟨none, _, rfl, (fun w e => nomatch e), ih⟩
  | w :: ws, _, h, m => by
    simp only [RepL] at h
    obtain ⟨v, r, e, a, b⟩ := h
    subst e
    exact ⟨some v, _, rfl, fun w' e => ⟨v, rfl, by cases e; exact a⟩, RepQ.start (n := n) b m⟩
end

/-- .. and every tuple of Z0 is there still -/
structure RepS (K : Frag) (Z0 H : Hp) (γ : Fr) (σ : St) : Prop where
  f : RepQ K H γ σ
  x : Ext K Z0 H
section
variable {K : Frag} {Z0 H H1 : Hp} {γ : Fr} {σ : St}
theorem RepS.ext (x : Ext K H H1) (h : RepS K Z0 H γ σ) : RepS K Z0 H1 γ σ := ⟨h.f.ext x, h.x.trans x⟩
theorem RepS.get {i : Nat} {w : W} (h : RepS K Z0 H γ σ) (e : L3.get γ i = some w) : ∃ v, σ[i]? = some (some v) ∧ Rep K H w v := h.f.get e
theorem RepS.put {i : Nat} {w : W} {v : V} (h : RepS K Z0 H γ σ) (r : Rep K H w v) : RepS K Z0 H (L3.put γ i w) (σ.set i (some v)) := ⟨h.f.put r, h.x⟩
theorem RepS.del {i : Nat} (h : RepS K Z0 H γ σ) : RepS K Z0 H (L3.del γ i) (σ.set i none) := ⟨h.f.del, h.x⟩
theorem RepS.wipe (h : RepS K Z0 H γ σ) (vs : List Nat) : RepS K Z0 H (L3.wipe γ vs) (L2.wipe σ vs) := ⟨h.f.wipe vs, h.x⟩
theorem RepS.length (h : RepS K Z0 H γ σ) : γ.length = σ.length := h.f.length
end
/-- what is wished of exceptions, and the heap at the beginning -/
structure EX where
  ex : Fr → XQ
  h0 : Hp
instance : CoeFun EX (fun _ => Fr → XQ) := ⟨EX.ex⟩

/-! ### simulations -/
section
variable (K : Frag) (Z0 : Hp)
abbrev KV3 (H : Hp) (Q3 : QV) (Q : VK) : Prop := ∀ v H' w G', Ext K H H' → Rel K H' G' → Rep K H' w v → Q3 w G' → Q v H'
def SimE (t : L2.TE) (t3 : Fr → Gh → QV → Prop) : Prop := ∀ (σ : St) (H : Hp) (γ : Fr) (G : Gh) (Q3 : QV) (Q : VK), RepS K Z0 H γ σ → Rel K H G → t3 γ G Q3 →
  (∀ v H' w G', Ext K H H' → Rel K H' G' → Rep K H' w v → Q3 w G' → Q v H') → t σ H Q
def SimT (t : L2.TT) (t3 : Fr → Gh → (Bool → Gh → Prop) → Prop) : Prop := ∀ (σ : St) (H : Hp) (γ : Fr) (G : Gh) (Q3 : Bool → Gh → Prop) (Q : Bool → Hp → Prop), RepS K Z0 H γ σ → Rel K H G → t3 γ G Q3 →
  (∀ b H' G', Ext K H H' → Rel K H' G' → Q3 b G' → Q b H') → t σ H Q
def SimA (t : L2.TA) (t3 : Fr → Gh → (List W → Gh → Prop) → Prop) : Prop := ∀ (σ : St) (H : Hp) (γ : Fr) (G : Gh) (Q3 : List W → Gh → Prop) (Q : List V → Hp → Prop), RepS K Z0 H γ σ → Rel K H G → t3 γ G Q3 →
  (∀ vs H' ws G', Ext K H H' → Rel K H' G' → RepL K H' ws vs → Q3 ws G' → Q vs H') → t σ H Q
structure EndsOk (H : Hp) (D3 : Ends) (D : L2.Ends) : Prop where
  nx : ∀ σ' H' γ' G', Ext K H H' → RepS K Z0 H' γ' σ' → Rel K H' G' → D3.nx γ' G' → D.nx σ' H'
  rt : ∀ v H' w G', Ext K H H' → Rel K H' G' → Rep K H' w v → D3.rt w G' → D.rt v H'
  bk : ∀ σ' H' γ' G', Ext K H H' → RepS K Z0 H' γ' σ' → Rel K H' G' → D3.bk γ' G' → D.bk σ' H'
  ct : ∀ σ' H' γ' G', Ext K H H' → RepS K Z0 H' γ' σ' → Rel K H' G' → D3.ct γ' G' → D.ct σ' H'
def SimS (E : Fr → XQ) (t : L2.TS) (t3 : TS) : Prop := ∀ (D : L2.Ends) (D3 : Ends) (σ : St) (H : Hp) (γ : Fr) (G : Gh), D3.ex = E → EndsOk K Z0 H D3 D → RepS K Z0 H γ σ → Rel K H G → t3 D3 γ G → t D σ H
/-- only the slots told have changed -/
def Only (is : List Nat) (σ σ' : St) : Prop := σ'.length = σ.length ∧ ∀ j, j ∉ is → σ'[j]? = σ[j]?
def SimG (is : List Nat) (t : L2.TG) (t3 : W → Fr → Gh → (Fr → Gh → Prop) → Prop) : Prop := ∀ {Z0 : Hp} (v : V) (w : W) (σ : St) (H : Hp) (γ : Fr) (G : Gh) (Q3 : Fr → Gh → Prop) (Q : St → Hp → Prop), RepS K Z0 H γ σ → Rel K H G → Rep K H w v → t3 w γ G Q3 →
  (∀ σ' H' γ' G', Ext K H H' → RepS K Z0 H' γ' σ' → Rel K H' G' → Only is σ σ' → Q3 γ' G' → Q σ' H') → t v σ H Q
def SimGs (is : List Nat) (t : L2.TGs) (t3 : List W → Fr → Gh → (Fr → Gh → Prop) → Prop) : Prop := ∀ {Z0 : Hp} (vs : List V) (ws : List W) (σ : St) (H : Hp) (γ : Fr) (G : Gh) (Q3 : Fr → Gh → Prop) (Q : St → Hp → Prop), RepS K Z0 H γ σ → Rel K H G → RepL K H ws vs → t3 ws γ G Q3 →
  (∀ σ' H' γ' G', Ext K H H' → RepS K Z0 H' γ' σ' → Rel K H' G' → Only is σ σ' → Q3 γ' G' → Q σ' H') → t vs σ H Q
def SimIt (H0 : Hp) (J : L2.It) (J3 : It) : Prop := ∀ (i : Nat) (H : Hp) (G : Gh) (all : List W), Ext K H0 H → Rel K H G → J3 G = some all →
  (∀ w, all[i]? = some w → J.go i H ∧ ∀ x H', J.yld i H x H' → Ext K H H' ∧ Rel K H' G ∧ Rep K H' w x) ∧ (all.length ≤ i → J.stop i H)
def SimI (t : L2.TI) (t3 : Fr → Gh → (It → Gh → Prop) → Prop) : Prop := ∀ (σ : St) (H : Hp) (γ : Fr) (G : Gh) (R3 : It → Gh → Prop) (R : L2.It → Hp → Prop), RepS K Z0 H γ σ → Rel K H G → t3 γ G R3 →
  (∀ J J3 H' G', Ext K H H' → Rel K H' G' → SimIt K H' J J3 → R3 J3 G' → R J H') → t σ H R
end
theorem EndsOk.ext {K : Frag} {Z0 H H1 : Hp} {D3 : Ends} {D : L2.Ends} (k : EndsOk K Z0 H D3 D) (x : Ext K H H1) : EndsOk K Z0 H1 D3 D :=
  ⟨fun σ' H' γ' G' y => k.nx σ' H' γ' G' (x.trans y), fun v H' w G' y => k.rt v H' w G' (x.trans y), fun σ' H' γ' G' y => k.bk σ' H' γ' G' (x.trans y), fun σ' H' γ' G' y => k.ct σ' H' γ' G' (x.trans y)⟩

/-! ### exceptions in the air -/
def clsV : W → Value
  | .ref C => .ref C
  | .ty n => .type n
  | _ => .none
def exRep (K : Frag) (H : Hp) (d : Option Addr) (ws : List W) : Prop := (d = none ∧ ws = []) ∨ ∃ a fs, ws ≠ [] ∧ d = some a ∧ H a = some (.xd fs) ∧ RepL K H ws (fs.map (·.2))
def lowX (K : Frag) (E : EX) : WX := fun cls d σ H => ∃ γ G w ws, RepS K E.h0 H γ σ ∧ Rel K H G ∧ cls = clsV w ∧ exRep K H d ws ∧ E γ w ws G
abbrev TakesE (X : Cx) (E : EX) : Prop := TkM X (lowX X.K E)

/-! ### judgements -/
def PE3 (X : Cx) (e : Expr) (t3 : TE) : Prop := ∀ E : EX, TakesE X E → ∃ t, PE X e t ∧ SimE X.K E.h0 t fun γ G Q => t3 γ G (E γ) Q
def PT3 (X : Cx) (e : Expr) (t3 : TT) : Prop := ∀ E : EX, TakesE X E → ∃ t, PT X e t ∧ SimT X.K E.h0 t fun γ G Q => t3 γ G (E γ) Q
def PW3 (X : Cx) (e : Expr) (t3 : TT) : Prop := ∀ E : EX, TakesE X E → ∃ t, PW X e t ∧ SimT X.K E.h0 t fun γ G Q => t3 γ G (E γ) Q
def PA3 (X : Cx) (es : List Expr) (t3 : TA) : Prop := ∀ E : EX, TakesE X E → ∃ t, PA X es t ∧ SimA X.K E.h0 t fun γ G Q => t3 γ G (E γ) Q
def PS3 (X : Cx) (st : Stmt) (t3 : TS) : Prop := ∀ E : EX, TakesE X E → ∃ t, PS X st t ∧ SimS X.K E.h0 E t t3
def PSs3 (X : Cx) (st : List Stmt) (t3 : TS) : Prop := ∀ E : EX, TakesE X E → ∃ t, PSs X st t ∧ SimS X.K E.h0 E t t3
theorem Only.refl {is : List Nat} {σ : St} : Only is σ σ := ⟨rfl, fun _ _ => rfl⟩
theorem Only.trans {is is' : List Nat} {σ σ' σ2 : St} (a : Only is σ σ') (b : Only is' σ' σ2) : Only (is ++ is') σ σ2 :=
  ⟨b.1.trans a.1, fun j hj => (b.2 j fun z => hj (List.mem_append_right _ z)).trans (a.2 j fun z => hj (List.mem_append_left _ z))⟩
theorem Only.set {i : Nat} {σ : St} {v : Option V} : Only [i] σ (σ.set i v) := ⟨by simp, fun j hj => by
  rw [List.getElem?_set_ne]
  rintro rfl
  exact hj (by simp)⟩
def PG3 (X : Cx) (e : Expr) (is : List Nat) (t3 : TG) : Prop := ∃ t, PG X e t ∧ SimG X.K is t t3
def PGs3 (X : Cx) (es : List Expr) (is : List Nat) (t3 : TGs) : Prop := ∃ t, PGs X es t ∧ SimGs X.K is t t3
def PI3 (X : Cx) (tg iter : Expr) (t3 : TI) : Prop := ∀ E : EX, TakesE X E → ∃ t, PI X tg iter t ∧ SimI X.K E.h0 t fun γ G R => t3 γ G (E γ) R

section
variable {X : Cx} {a b c d e : Expr} {es : List Expr} {ta tb tc td te : TE} {tA tB : TT} {pos : Pos} {rest : List Expr}

/-! ### names, constants -/
theorem pe3_var {i : Nat} {x : Str} (h : PE X (.Name x pos) (tVar i)) : PE3 X (.Name x pos) (eVar i) := fun E tk => ⟨_, h, fun σ H γ G Q3 Q hs hr h3 k => by
  simp only [eVar] at h3
  cases e : get γ i with
  | none => rw [e] at h3; exact h3.elim
  | some w =>
    rw [e] at h3
    obtain ⟨v, e1, e2⟩ := hs.get e
    exact ⟨v, e1, k v H w G .refl hr e2 h3⟩⟩
theorem pe3_c {w : W} {v : V} (h : PE X e (tC v)) (r : ∀ H, Rep X.K H w v) : PE3 X e (eC w) := fun E tk => ⟨_, h, fun σ H γ G Q3 Q hs hr h3 k => k v H w G .refl hr (r H) h3⟩
theorem pe3_int {i j pos} : PE3 X (.Constant (.int i) j pos) (eC (.int i)) := pe3_c pe_int fun H => by simp only [Rep]
theorem pe3_bl {i j pos} : PE3 X (.Constant (.bool i) j pos) (eC (.bl i)) := pe3_c pe_bl fun H => by simp only [Rep]
theorem pe3_non {j pos} : PE3 X (.Constant .none j pos) (eC .non) := pe3_c pe_non fun H => by simp only [Rep]
theorem pe3_str {x : Str} {l : List Nat} {j pos} (h : x = S l) : PE3 X (.Constant (.str x) j pos) (eC (.str l)) := pe3_c pe_str fun H => by rw [h]; simp only [Rep]; rfl

/-! ### operations by values -/
def OpR3 (X : Cx) (f : Value → Value → Sem Value) (r3 : R2) : Prop := ∃ r : L2.R2, OpR X f r ∧ ∀ x y v u H G Q3 Q, Rel X.K H G → Rep X.K H x v → Rep X.K H y u → r3 x y G Q3 →
  (∀ v H' w G', Ext X.K H H' → Rel X.K H' G' → Rep X.K H' w v → Q3 w G' → Q v H') → r v u H Q
theorem pe3_op {op : Operator} {r3 : R2} (ho : OpR3 X (binaryOp op) r3) (ha : PE3 X a ta) (hb : PE3 X b tb) : PE3 X (.BinOp a op b pos) (eOp r3 ta tb) := fun E tk => by
  obtain ⟨r, h1, h2⟩ := ho
  obtain ⟨t, p1, q1⟩ := ha E tk
  obtain ⟨u, p2, q2⟩ := hb E tk
  refine ⟨_, pe_op h1 p1 p2, fun σ H γ G Q3 Q hs hr h3 k => ?_⟩
  refine q1 σ H γ G _ _ hs hr h3 fun v H1 w G1 x1 r1 rv h3 => ?_
  refine q2 σ H1 γ G1 _ _ (hs.ext x1) r1 h3 fun v2 H2 w2 G2 x2 r2 rv2 h3 => ?_
  exact h2 _ _ _ _ _ _ _ _ r2 (rv.ext x2) rv2 h3 fun v3 H3 w3 G3 x3 => k v3 H3 w3 G3 ((x1.trans x2).trans x3)
theorem pe3_cmp {op : CmpOp} {r3 : R2} (ho : OpR3 X (compareOp op) r3) (ha : PE3 X a ta) (hb : PE3 X b tb) (hm : behindInMarks op b = false) : PE3 X (.Compare a [op] [b] pos) (eOp r3 ta tb) := fun E tk => by
  obtain ⟨r, h1, h2⟩ := ho
  obtain ⟨t, p1, q1⟩ := ha E tk
  obtain ⟨u, p2, q2⟩ := hb E tk
  refine ⟨_, pe_cmpR h1 p1 p2 hm, fun σ H γ G Q3 Q hs hr h3 k => ?_⟩
  refine q1 σ H γ G _ _ hs hr h3 fun v H1 w G1 x1 r1 rv h3 => ?_
  refine q2 σ H1 γ G1 _ _ (hs.ext x1) r1 h3 fun v2 H2 w2 G2 x2 r2 rv2 h3 => ?_
  exact h2 _ _ _ _ _ _ _ _ r2 (rv.ext x2) rv2 h3 fun v3 H3 w3 G3 x3 => k v3 H3 w3 G3 ((x1.trans x2).trans x3)
theorem rbl {K : Frag} {H : Hp} {k : Bool} : Rep K H (.bl k) (.bl k) := by simp only [Rep]
theorem rint {K : Frag} {H : Hp} {k : Int} : Rep K H (.int k) (.int k) := by simp only [Rep]
theorem rnon {K : Frag} {H : Hp} : Rep K H .non .non := by simp only [Rep]
theorem rref {K : Frag} {H : Hp} {p : Addr} : Rep K H (.ref p) (.ref p) := by simp only [Rep]
theorem rstr {K : Frag} {H : Hp} {l : List Nat} : Rep K H (.str l) (.str (S l)) := by simp only [Rep]; rfl
theorem rep_bl {K : Frag} {H : Hp} {k : Bool} {v : V} (h : Rep K H (.bl k) v) : v = .bl k := by simpa only [Rep] using h
theorem pt3_cmp {op : CmpOp} {r3 : R2} (ho : OpR3 X (compareOp op) r3) (ha : PE3 X a ta) (hb : PE3 X b tb) (hm : behindInMarks op b = false) : PT3 X (.Compare a [op] [b] pos) (tV (eOp r3 ta tb)) := fun E tk => by
  obtain ⟨r, h1, h2⟩ := ho
  obtain ⟨t, p1, q1⟩ := ha E tk
  obtain ⟨u, p2, q2⟩ := hb E tk
  refine ⟨_, pt_cmpR h1 p1 p2 hm, fun σ H γ G Q3 Q hs hr h3 k => ?_⟩
  refine q1 σ H γ G _ _ hs hr h3 fun v H1 w G1 x1 r1 rv h3 => ?_
  refine q2 σ H1 γ G1 _ _ (hs.ext x1) r1 h3 fun v2 H2 w2 G2 x2 r2 rv2 h3 => ?_
  refine h2 _ _ _ _ _ _ _ _ r2 (rv.ext x2) rv2 h3 fun v3 H3 w3 G3 x3 r3 rv3 h3 => ?_
  cases w3 with
  | bl b => exact ⟨b, rep_bl rv3, k b H3 G3 ((x1.trans x2).trans x3) r3 h3⟩
  | _ => exact h3.elim
def UnR3 (X : Cx) (f : Value → Sem Value) (r3 : R1) : Prop := ∃ r : V → Hp → VK → Prop, UnR X f r ∧ ∀ x v H G Q3 Q, Rel X.K H G → Rep X.K H x v → r3 x G Q3 →
  (∀ v H' w G', Ext X.K H H' → Rel X.K H' G' → Rep X.K H' w v → Q3 w G' → Q v H') → r v H Q
theorem pe3_un {op : UnaryOp} {r3 : R1} (ho : UnR3 X (unaryOp op) r3) (ha : PE3 X a ta) : PE3 X (.UnaryOp op a pos) (eUn r3 ta) := fun E tk => by
  obtain ⟨r, h1, h2⟩ := ho
  obtain ⟨t, p1, q1⟩ := ha E tk
  refine ⟨_, pe_un h1 p1, fun σ H γ G Q3 Q hs hr h3 k => ?_⟩
  refine q1 σ H γ G _ _ hs hr h3 fun v H1 w G1 x1 r1 rv h3 => ?_
  exact h2 _ _ _ _ _ _ r1 rv h3 fun v3 H3 w3 G3 x3 => k v3 H3 w3 G3 (x1.trans x3)
/-- a op1 b op2 c -/
theorem ch_sim {op op' : CmpOp} {r3 r3' : R2} {r r' : L2.R2} {t u z : L2.TE} {E : EX}
    (h2 : ∀ x y v u H G Q3 Q, Rel X.K H G → Rep X.K H x v → Rep X.K H y u → r3 x y G Q3 → (∀ v H' w G', Ext X.K H H' → Rel X.K H' G' → Rep X.K H' w v → Q3 w G' → Q v H') → r v u H Q)
    (h2' : ∀ x y v u H G Q3 Q, Rel X.K H G → Rep X.K H x v → Rep X.K H y u → r3' x y G Q3 → (∀ v H' w G', Ext X.K H H' → Rel X.K H' G' → Rep X.K H' w v → Q3 w G' → Q v H') → r' v u H Q)
    (q1 : SimE X.K E.h0 t fun γ G Q => ta γ G (E γ) Q) (q2 : SimE X.K E.h0 u fun γ G Q => tb γ G (E γ) Q) (q3 : SimE X.K E.h0 z fun γ G Q => tc γ G (E γ) Q) :
    SimE X.K E.h0 (tChain r r' t u z) fun γ G Q => eCh r3 r3' ta tb tc γ G (E γ) Q := by
  intro σ H γ G Q3 Q hs hr h3 k
  refine q1 σ H γ G _ _ hs hr h3 fun v H1 w G1 x1 r1 rv h3 => ?_
  refine q2 σ H1 γ G1 _ _ (hs.ext x1) r1 h3 fun v2 H2 w2 G2 x2 r2 rv2 h3 => ?_
  refine h2 _ _ _ _ _ _ _ _ r2 (rv.ext x2) rv2 h3 fun v3 H3 w3 G3 x3 r3 rv3 h3 => ?_
  cases w3 with
  | bl b =>
    refine ⟨b, rep_bl rv3, ?_⟩
    cases b with
    | true =>
      refine iteT (q3 σ H3 γ G3 _ _ (hs.ext ((x1.trans x2).trans x3)) r3 h3 fun v4 H4 w4 G4 x4 r4 rv4 h3 => ?_)
      exact h2' _ _ _ _ _ _ _ _ r4 (rv2.ext (x3.trans x4)) rv4 h3 fun v5 H5 w5 G5 x5 => k v5 H5 w5 G5 (((x1.trans x2).trans x3).trans (x4.trans x5))
    | false => exact iteF (k _ H3 _ G3 ((x1.trans x2).trans x3) r3 rbl h3)
  | _ => exact h3.elim
theorem pe3_ch {op op' : CmpOp} {r3 r3' : R2} (ho : OpR3 X (compareOp op) r3) (ho' : OpR3 X (compareOp op') r3') (ha : PE3 X a ta) (hb : PE3 X b tb) (hc : PE3 X c tc)
    (hm : lastMarks [op, op'] [b, c] = false := by with_unfolding_all rfl) : PE3 X (.Compare a [op, op'] [b, c] pos) (eCh r3 r3' ta tb tc) := fun E tk => by
  obtain ⟨r, h1, h2⟩ := ho
  obtain ⟨r', h1', h2'⟩ := ho'
  obtain ⟨t, p1, q1⟩ := ha E tk
  obtain ⟨u, p2, q2⟩ := hb E tk
  obtain ⟨z, p3, q3⟩ := hc E tk
  exact ⟨_, pe_chain h1 h1' p1 p2 p3 hm, ch_sim (op := op) (op' := op') h2 h2' q1 q2 q3⟩
theorem pt3_ch {op op' : CmpOp} {r3 r3' : R2} (ho : OpR3 X (compareOp op) r3) (ho' : OpR3 X (compareOp op') r3') (ha : PE3 X a ta) (hb : PE3 X b tb) (hc : PE3 X c tc)
    (hm : lastMarks [op, op'] [b, c] = false := by with_unfolding_all rfl) : PT3 X (.Compare a [op, op'] [b, c] pos) (tV (eCh r3 r3' ta tb tc)) := fun E tk => by
  obtain ⟨r, h1, h2⟩ := ho
  obtain ⟨r', h1', h2'⟩ := ho'
  obtain ⟨t, p1, q1⟩ := ha E tk
  obtain ⟨u, p2, q2⟩ := hb E tk
  obtain ⟨z, p3, q3⟩ := hc E tk
  refine ⟨_, pt_chain h1 h1' p1 p2 p3 hm, fun σ H γ G Q3 Q hs hr h3 k => ?_⟩
  refine ch_sim (op := op) (op' := op') (E := E) h2 h2' q1 q2 q3 σ H γ G _ _ hs hr h3 fun v H' w G' x r rv h3 => ?_
  cases w with
  | bl b => exact ⟨b, rep_bl rv, k b H' G' x r h3⟩
  | _ => exact h3.elim
/-! ### if, and, or, not -/
theorem pe3_if (hc : PT3 X c tA) (ha : PE3 X a ta) (hb : PE3 X b tb) : PE3 X (.IfExp c a b pos) (eIf tA ta tb) := fun E tk => by
  obtain ⟨t, p1, q1⟩ := ha E tk
  obtain ⟨u, p2, q2⟩ := hb E tk
  obtain ⟨z, p3, q3⟩ := hc E tk
  refine ⟨_, pe_ifExp p3 p1 p2, fun σ H γ G Q3 Q hs hr h3 k => ?_⟩
  refine q3 σ H γ G _ _ hs hr h3 fun b H1 G1 x1 r1 h3 => ?_
  cases b with
  | true => exact iteT (q1 σ H1 γ G1 _ _ (hs.ext x1) r1 (by simpa using h3) fun v H' w G' x => k v H' w G' (x1.trans x))
  | false => exact iteF (q2 σ H1 γ G1 _ _ (hs.ext x1) r1 (by simpa using h3) fun v H' w G' x => k v H' w G' (x1.trans x))
theorem pe3_one {op} (h : PE3 X a ta) : PE3 X (.BoolOp op [a] pos) ta := fun E tk => let ⟨t, p, q⟩ := h E tk; ⟨t, pe_one p, q⟩
theorem pe3_and (ha : PE3 X a ta) (hb : PE3 X (.BoolOp .And (b :: rest) pos) tb) : PE3 X (.BoolOp .And (a :: b :: rest) pos) (eAnd ta tb) := fun E tk => by
  obtain ⟨t, p1, q1⟩ := ha E tk
  obtain ⟨u, p2, q2⟩ := hb E tk
  refine ⟨_, pe_and p1 p2, fun σ H γ G Q3 Q hs hr h3 k => ?_⟩
  refine q1 σ H γ G _ _ hs hr h3 fun v H1 w G1 x1 r1 rv h3 => ?_
  cases w with
  | bl b =>
    refine ⟨b, rep_bl rv, ?_⟩
    cases b with
    | true => exact iteT (q2 σ H1 γ G1 _ _ (hs.ext x1) r1 (by simpa using h3) fun v H' w G' x => k v H' w G' (x1.trans x))
    | false => exact iteF (k _ H1 _ G1 x1 r1 rbl (by simpa using h3))
  | _ => exact h3.elim
theorem pe3_or (ha : PE3 X a ta) (hb : PE3 X (.BoolOp .Or (b :: rest) pos) tb) : PE3 X (.BoolOp .Or (a :: b :: rest) pos) (eOr ta tb) := fun E tk => by
  obtain ⟨t, p1, q1⟩ := ha E tk
  obtain ⟨u, p2, q2⟩ := hb E tk
  refine ⟨_, pe_or p1 p2, fun σ H γ G Q3 Q hs hr h3 k => ?_⟩
  refine q1 σ H γ G _ _ hs hr h3 fun v H1 w G1 x1 r1 rv h3 => ?_
  cases w with
  | bl b =>
    refine ⟨b, rep_bl rv, ?_⟩
    cases b with
    | false => exact iteF (q2 σ H1 γ G1 _ _ (hs.ext x1) r1 (by simpa using h3) fun v H' w G' x => k v H' w G' (x1.trans x))
    | true => exact iteT (k _ H1 _ G1 x1 r1 rbl (by simpa using h3))
  | _ => exact h3.elim
theorem pe3_not (ha : PE3 X a ta) : PE3 X (.UnaryOp .Not a pos) (eNot ta) := fun E tk => by
  obtain ⟨t, p1, q1⟩ := ha E tk
  refine ⟨_, pe_not p1, fun σ H γ G Q3 Q hs hr h3 k => ?_⟩
  refine q1 σ H γ G _ _ hs hr h3 fun v H1 w G1 x1 r1 rv h3 => ?_
  cases w with
  | bl b => exact ⟨b, rep_bl rv, k _ H1 _ G1 x1 r1 rbl h3⟩
  | _ => exact h3.elim
theorem PW3.pt (h : PW3 X a tA) : PT3 X a tA := fun E tk => let ⟨t, p, q⟩ := h E tk; ⟨t, p.pt, q⟩
theorem pw3_and1 (h : PT3 X a tA) : PW3 X (.BoolOp .And [a] pos) tA := fun E tk => let ⟨t, p, q⟩ := h E tk; ⟨t, pw_and1 p, q⟩
theorem pw3_or1 (h : PT3 X a tA) : PW3 X (.BoolOp .Or [a] pos) tA := fun E tk => let ⟨t, p, q⟩ := h E tk; ⟨t, pw_or1 p, q⟩
theorem pw3_and (ha : PT3 X a tA) (hb : PW3 X (.BoolOp .And (b :: rest) pos) tB) : PW3 X (.BoolOp .And (a :: b :: rest) pos) (tAnd tA tB) := fun E tk => by
  obtain ⟨t, p1, q1⟩ := ha E tk
  obtain ⟨u, p2, q2⟩ := hb E tk
  refine ⟨_, pw_and p1 p2, fun σ H γ G Q3 Q hs hr h3 k => ?_⟩
  refine q1 σ H γ G _ _ hs hr h3 fun b H1 G1 x1 r1 h3 => ?_
  cases b with
  | true => exact iteT (q2 σ H1 γ G1 _ _ (hs.ext x1) r1 (by simpa using h3) fun v H' G' x => k v H' G' (x1.trans x))
  | false => exact iteF (k _ H1 G1 x1 r1 (by simpa using h3))
theorem pw3_or (ha : PT3 X a tA) (hb : PW3 X (.BoolOp .Or (b :: rest) pos) tB) : PW3 X (.BoolOp .Or (a :: b :: rest) pos) (tOr tA tB) := fun E tk => by
  obtain ⟨t, p1, q1⟩ := ha E tk
  obtain ⟨u, p2, q2⟩ := hb E tk
  refine ⟨_, pw_or p1 p2, fun σ H γ G Q3 Q hs hr h3 k => ?_⟩
  refine q1 σ H γ G _ _ hs hr h3 fun b H1 G1 x1 r1 h3 => ?_
  cases b with
  | false => exact iteF (q2 σ H1 γ G1 _ _ (hs.ext x1) r1 (by simpa using h3) fun v H' G' x => k v H' G' (x1.trans x))
  | true => exact iteT (k _ H1 G1 x1 r1 (by simpa using h3))
theorem pt3_not (ha : PT3 X a tA) : PT3 X (.UnaryOp .Not a pos) (tNot tA) := fun E tk => by
  obtain ⟨t, p1, q1⟩ := ha E tk
  refine ⟨_, pt_not p1, fun σ H γ G Q3 Q hs hr h3 k => ?_⟩
  exact q1 σ H γ G _ _ hs hr h3 fun b H1 G1 x1 r1 h3 => k _ H1 G1 x1 r1 h3
theorem rep_tup {K : Frag} {H : Hp} {ws : List W} {v : V} (h : Rep K H (.tup ws) v) : ∃ a xs, v = .ref a ∧ SqT K H a xs ∧ RepL K H ws xs := by
  simp only [Rep] at h
  obtain ⟨a, xs, e, s, r⟩ := h
  exact ⟨a, xs, e, .inl (.inl s), r⟩
theorem rep_tupS {K : Frag} {H : Hp} {ws : List W} {v : V} (h : Rep K H (.tup ws) v) : ∃ a xs, v = .ref a ∧ H a = some (.tup xs) ∧ RepL K H ws xs := by simpa only [Rep] using h
theorem sqt_none {K : Frag} {H : Hp} {a : Addr} {xs : List V} (h : SqT K (fun _ => none) a xs) : SqT K H a xs := by
  rcases h with (h | ⟨o, h⟩) | h
  · cases h
  · cases h
  · exact .inr h
theorem rep_ktp {K : Frag} {H : Hp} {ws : List W} {v : V} (h : Rep K H (.ktp ws) v) : ∃ a xs, v = .ref a ∧ SqT K H a xs ∧ RepL K H ws xs := by
  simp only [Rep] at h
  obtain ⟨a, xs, e, s, r⟩ := h
  exact ⟨a, xs, e, sqt_none s, r⟩
theorem rep_ktp0 {K : Frag} {H : Hp} {ws : List W} {v : V} (h : Rep K H (.ktp ws) v) : ∃ a xs, v = .ref a ∧ SqT K (fun _ => none) a xs ∧ RepL K H ws xs := by simpa only [Rep] using h
theorem emp {ws : List W} {xs : List V} (h : ws.length = xs.length) : (!ws.isEmpty) = !xs.isEmpty := by cases ws <;> cases xs <;> first | rfl | cases h
/-- an expression of any kind as a test -/
theorem pt3_tru (ha : PE3 X a ta) (he : ∀ whole, isTrue a X.env whole = (do let v ← whole; standAt a.pos; holding [v] (truthy v)) := by intro _; rfl) : PT3 X a (tTru ta) := fun E tk => by
  obtain ⟨t, p1, q1⟩ := ha E tk
  refine ⟨_, pt_truth p1 he, fun σ H γ G Q3 Q hs hr h3 k => ?_⟩
  refine q1 σ H γ G _ _ hs hr h3 fun v H1 w G1 x1 r1 rv h3 => ?_
  cases w with
  | non => simp only [Rep] at rv; subst rv; exact ⟨false, rfl, k _ _ _ x1 r1 h3⟩
  | bl b => simp only [Rep] at rv; subst rv; exact ⟨b, rfl, k _ _ _ x1 r1 h3⟩
  | int i => simp only [Rep] at rv; subst rv; exact ⟨i != 0, rfl, k _ _ _ x1 r1 h3⟩
  | str l =>
    simp only [Rep] at rv; subst rv
    have hl : (⟨l.toArray⟩ : Str).length = l.length := S_length l
    refine ⟨!l.isEmpty, ⟨by rw [hl]; exact h3.1, ?_⟩, k _ _ _ x1 r1 h3.2⟩
    rw [hl]
    cases l with
    | nil => rfl
    | cons c r =>
      show (!false) = _
      rw [List.length_cons]
      exact (bne_iff_ne.mpr (by omega)).symm
  | kl _ => exact h3.elim
  | tup ws =>
    obtain ⟨p, xs, rfl, s1, s2⟩ := rep_tup rv
    exact ⟨_, .inr (.inl ⟨xs, s1, emp s2.length⟩), k _ _ _ x1 r1 h3⟩
  | ktp ws =>
    obtain ⟨p, xs, rfl, s1, s2⟩ := rep_ktp rv
    exact ⟨_, .inr (.inl ⟨xs, s1, emp s2.length⟩), k _ _ _ x1 r1 h3⟩
  | ref p =>
    simp only [Rep] at rv; subst rv
    cases e : G1 p with
    | none => simp only [truth, e] at h3
    | some o =>
      cases o with
      | lst ws =>
        simp only [truth, e] at h3
        obtain ⟨xs, s1, s2⟩ := r1.seq (.inl e)
        exact ⟨_, .inl ⟨xs, s1, emp s2.length⟩, k _ _ _ x1 r1 h3⟩
      | rdl ws =>
        simp only [truth, e] at h3
        obtain ⟨xs, s1, s2⟩ := r1.seq (.inr e)
        exact ⟨_, .inl ⟨xs, s1, emp s2.length⟩, k _ _ _ x1 r1 h3⟩
      | dct kvs =>
        simp only [truth, e] at h3
        obtain ⟨ks, s1, s2⟩ := r1 p _ e
        refine ⟨!kvs.isEmpty, .inr (.inr ⟨ks, s1, ?_⟩), k _ _ _ x1 r1 h3⟩
        have := s2.length
        cases kvs <;> cases ks <;> first | rfl | cases this
      | dtt kvs => simp only [truth, e] at h3
      | ins C ns ws => simp only [truth, e] at h3
      | exo C ns ws => simp only [truth, e] at h3
      | rdt kvs => simp only [truth, e] at h3
      | rdc kvs => simp only [truth, e] at h3
  | ty n => exact h3.elim

/-! ### arguments -/
theorem pa3_nil : PA3 X [] aNil := fun E tk => ⟨_, pa_nil, fun σ H γ G Q3 Q hs hr h3 k => k [] H [] G .refl hr .nil h3⟩
theorem pa3_cons {tr : TA} (ha : PE3 X e te) (hr : PA3 X es tr) (hs : starEach (e :: es) X.env = (false, eval e X.env) :: starEach es X.env := by rfl) : PA3 X (e :: es) (aCons te tr) := fun E tk => by
  obtain ⟨t, p1, q1⟩ := ha E tk
  obtain ⟨u, p2, q2⟩ := hr E tk
  refine ⟨_, pa_cons p1 p2 hs, fun σ H γ G Q3 Q hs hr h3 k => ?_⟩
  refine q1 σ H γ G _ _ hs hr h3 fun v H1 w G1 x1 r1 rv h3 => ?_
  refine q2 σ H1 γ G1 _ _ (hs.ext x1) r1 h3 fun vs H2 ws G2 x2 r2 rv2 h3 => ?_
  exact k _ H2 _ G2 (x1.trans x2) r2 (.cons (rv.ext x2) rv2) h3
theorem pa3_csn : PA3 X [] (aCs []) := pa3_nil
theorem pa3_csc {u : W} {us : List W} (ha : PE3 X e (eC u)) (hr : PA3 X es (aCs us)) (hs : starEach (e :: es) X.env = (false, eval e X.env) :: starEach es X.env := by rfl) : PA3 X (e :: es) (aCs (u :: us)) := pa3_cons ha hr hs
end

/-! ### statements -/
section
variable {X : Cx} {st : Stmt} {rest : List Stmt} {t u : TS} {e : Expr} {te : TE} {pos : Pos}
theorem pss3_nil : PSs3 X [] sNext := fun E tk => ⟨_, pss_nil, fun D D3 σ H γ G he ho hs hr h3 => ho.nx σ H γ G .refl hs hr h3⟩
theorem pss3_cons (h1 : PS3 X st t) (h2 : PSs3 X rest u) : PSs3 X (st :: rest) (sSeq t u) := fun E tk => by
  obtain ⟨t1, p1, q1⟩ := h1 E tk
  obtain ⟨t2, p2, q2⟩ := h2 E tk
  refine ⟨_, pss_cons p1 p2, fun D D3 σ H γ G he ho hs hr h3 => ?_⟩
  refine q1 _ { D3 with nx := u D3 } σ H γ G he ⟨fun σ' H' γ' G' x s r h => ?_, ho.rt, ho.bk, ho.ct⟩ hs hr h3
  exact q2 D D3 σ' H' γ' G' he (ho.ext x) s r h
theorem pss3_one (h1 : PS3 X st t) : PSs3 X [st] t := fun E tk => let ⟨t, p, q⟩ := h1 E tk; ⟨t, pss_one p, q⟩
theorem ps3_pass : PS3 X (.Pass pos) sNext := fun E tk => ⟨_, ps_pass, fun D D3 σ H γ G he ho hs hr h3 => ho.nx σ H γ G .refl hs hr h3⟩
theorem ps3_brk : PS3 X (.Break pos) sBrk := fun E tk => ⟨_, ps_break, fun D D3 σ H γ G he ho hs hr h3 => ho.bk σ H γ G .refl hs hr h3⟩
theorem ps3_cnt : PS3 X (.Continue pos) sCnt := fun E tk => ⟨_, ps_continue, fun D D3 σ H γ G he ho hs hr h3 => ho.ct σ H γ G .refl hs hr h3⟩
theorem ps3_expr (h : PE3 X e te) (hs : swapsWith e none pos.line X.env = pure false := by rfl) : PS3 X (.Expr e pos) (sDrop te) := fun E tk => by
  obtain ⟨t, p, q⟩ := h E tk
  refine ⟨_, ps_expr p hs, fun D D3 σ H γ G he ho hs hr h3 => ?_⟩
  cases E; dsimp only at he; subst he
  exact q σ H γ G _ _ hs hr h3 fun v H' w G' x r rv h => ho.nx σ H' γ G' x (hs.ext x) r h
theorem ps3_ret (h : PE3 X e te) : PS3 X (.Return (some e) pos) (sRet te) := fun E tk => by
  obtain ⟨t, p, q⟩ := h E tk
  refine ⟨_, ps_ret p, fun D D3 σ H γ G he ho hs hr h3 => ?_⟩
  cases E; dsimp only at he; subst he
  exact q σ H γ G _ _ hs hr h3 fun v H' w G' x r rv h => ho.rt v H' w G' x r rv h
theorem ps3_retN : PS3 X (.Return none pos) sRetN := fun E tk => ⟨_, ps_retN, fun D D3 σ H γ G he ho hs hr h3 => ho.rt .non H .non G .refl hr rnon h3⟩
theorem ps3_if {c : Expr} {a b : List Stmt} {tc : TT} (hc : PT3 X c tc) (ha : PSs3 X a t) (hb : PSs3 X b u) : PS3 X (.If c a b pos) (sIf tc t u) := fun E tk => by
  obtain ⟨t0, p0, q0⟩ := hc E tk
  obtain ⟨t1, p1, q1⟩ := ha E tk
  obtain ⟨t2, p2, q2⟩ := hb E tk
  refine ⟨_, ps_if p0 p1 p2, fun D D3 σ H γ G he ho hs hr h3 => ?_⟩
  have he' := he
  cases E; dsimp only at he; subst he
  refine q0 σ H γ G _ _ hs hr h3 fun b H1 G1 x1 r1 h3 => ?_
  cases b with
  | true => exact iteT (q1 D D3 σ H1 γ G1 he' (ho.ext x1) (hs.ext x1) r1 (by simpa using h3))
  | false => exact iteF (q2 D D3 σ H1 γ G1 he' (ho.ext x1) (hs.ext x1) r1 (by simpa using h3))
theorem ps3_set {i : Nat} {x : Str} {pos' : Pos} (hN : X.N.Nodup) (hi : X.N[i]? = some x) (hx : Loc X.env.scope x) (h : PE3 X e te) (hs : swapsWith e (some (.Name x pos')) pos.line X.env = pure false := by rfl) (hf : X.fn x = true ∨ X.env.scope.names.lookup x = some .local := by first | exact .inl rfl | exact .inr rfl | assumption) :
    PS3 X (.Assign [.Name x pos'] e pos) (sSet i te) := fun E tk => by
  obtain ⟨t, p, q⟩ := h E tk
  refine ⟨_, ps_set hN hi hx p hs hf, fun D D3 σ H γ G he ho hs hr h3 => ?_⟩
  cases E; dsimp only at he; subst he
  exact q σ H γ G _ _ hs hr h3 fun v H' w G' x r rv h => ho.nx _ H' _ G' x ((hs.ext x).put rv) r h
theorem ps3_aug {i : Nat} {x : Str} {op : Operator} {r3 : R2} {pos' : Pos} (hN : X.N.Nodup) (hi : X.N[i]? = some x) (hx : Loc X.env.scope x) (ho : OpR3 X (inplaceOp op) r3) (h : PE3 X e te) (hf : X.fn x = true ∨ X.env.scope.names.lookup x = some .local := by first | exact .inl rfl | exact .inr rfl | assumption) :
    PS3 X (.AugAssign (.Name x pos') op e pos) (sAug i r3 te) := fun E tk => by
  obtain ⟨r, h1, h2⟩ := ho
  obtain ⟨t, p, q⟩ := h E tk
  refine ⟨_, ps_aug hN hi hx p h1 hf, fun D D3 σ H γ G he ho hs hr h3 => ?_⟩
  cases E; dsimp only at he; subst he
  simp only [sAug] at h3
  cases e : get γ i with
  | none => rw [e] at h3; exact h3.elim
  | some w =>
    rw [e] at h3
    obtain ⟨v, e1, e2⟩ := hs.get e
    refine ⟨v, e1, q σ H γ G _ _ hs hr h3 fun v1 H1 w1 G1 x1 r1 rv1 h => ?_⟩
    exact h2 _ _ _ _ _ _ _ _ r1 (e2.ext x1) rv1 h fun v2 H2 w2 G2 x2 r2 rv2 h => ho.nx _ H2 _ G2 (x1.trans x2) ((hs.ext (x1.trans x2)).put rv2) r2 h
/-! targets -/
theorem pg3_name {i : Nat} {x : Str} (hN : X.N.Nodup) (hi : X.N[i]? = some x) (hx : Loc X.env.scope x) (hf : X.fn x = true ∨ X.env.scope.names.lookup x = some .local := by first | exact .inl rfl | exact .inr rfl | assumption) : PG3 X (.Name x pos) [i] (gName i) :=
  ⟨_, pg_name hN hi hx hf, fun v w σ H γ G Q3 Q hs hr rv h3 k => k _ H _ G .refl (hs.put rv) hr .set h3⟩
theorem pgs3_nil : PGs3 X [] [] gNil := ⟨_, pgs_nil, fun vs ws σ H γ G Q3 Q hs hr rv h3 k => by
  obtain ⟨rfl, h3⟩ := h3
  simp only [RepL] at rv
  exact ⟨rv, k σ H γ G .refl hs hr .refl h3⟩⟩
theorem pgs3_cons {es : List Expr} {is js : List Nat} {g : TG} {u : TGs} (h1 : PG3 X e is g) (h2 : PGs3 X es js u) (hs : (assignEach (e :: es) X.env).map (·.2) = assign e X.env :: (assignEach es X.env).map (·.2) := by rfl) : PGs3 X (e :: es) (is ++ js) (gCons g u) := by
  obtain ⟨t, p1, q1⟩ := h1
  obtain ⟨u2, p2, q2⟩ := h2
  refine ⟨_, pgs_cons p1 p2 hs, fun vs ws σ H γ G Q3 Q hs hr rv h3 k => ?_⟩
  cases ws with
  | nil => exact h3.elim
  | cons w ws =>
    simp only [RepL] at rv
    obtain ⟨v, r, rfl, r1, r2⟩ := rv
    refine ⟨v, r, rfl, q1 v w σ H γ G _ _ hs hr r1 h3 fun σ' H' γ' G' x s' r' o1 h3 => ?_⟩
    exact q2 r ws σ' H' γ' G' _ _ s' r' (r2.ext x) h3 fun σ2 H2 γ2 G2 y s2 r2 o2 => k σ2 H2 γ2 G2 (x.trans y) s2 r2 (o1.trans o2)
theorem tup_sim {es : List Expr} {is : List Nat} {k : Nat} {t : L2.TGs} {u : TGs} {n : Nat} (pa : PG X (.Tuple es k pos) (L2.gTup X.K n t)) (pb : PG X (.Tuple es k pos) (gLst X.K n t)) (q1 : SimGs X.K is t u) : PG3 X (.Tuple es k pos) is (gTup n u) := by
  refine ⟨fun v σ H Q => L2.gTup X.K n t v σ H Q ∨ gLst X.K n t v σ H Q, ⟨fun pins s σ H v u Q I r h => ?_⟩, fun v w σ H γ G Q3 Q hs hr rv h3 k => ?_⟩
  · rcases h with h | h
    · exact pa.run pins s σ H v u Q I r h
    · exact pb.run pins s σ H v u Q I r h
  · cases w with
    | tup ws =>
      obtain ⟨a, xs, rfl, s1, s2⟩ := rep_tup rv
      exact .inl ⟨a, xs, rfl, s1, s2.length.symm.trans h3.1, q1 xs ws σ H γ G _ _ hs hr s2 h3.2 k⟩
    | ref a =>
      simp only [Rep] at rv; subst rv
      cases e : G a with
      | none => simp only [gTup, e] at h3
      | some o =>
        cases o with
        | lst ws =>
          simp only [gTup, e] at h3
          obtain ⟨xs, s1, s2⟩ := hr.seq (.inl e)
          exact .inr ⟨a, xs, rfl, s1, s2.length.symm.trans h3.1, q1 xs ws σ H γ G _ _ hs hr s2 h3.2 k⟩
        | _ => simp only [gTup, e] at h3
    | _ => exact h3.elim
theorem pg3_tup {es : List Expr} {is : List Nat} {k : Nat} {u : TGs} {n : Nat} (hc : X.calm = true) (h : PGs3 X es is u)
    (hn : (assignEach es X.env).length = n := by rfl) (hst : (assignEach es X.env).findIdx? (·.1) = none := by rfl) : PG3 X (.Tuple es k pos) is (gTup n u) := by
  obtain ⟨t, p1, q1⟩ := h
  exact tup_sim (pg_tup (k := k) (pos := pos) hc p1 hn hst) (pg_lst (k := k) (pos := pos) hc p1 hn hst) q1
theorem ps3_asg {tg : Expr} {is : List Nat} {g : TG} (h : PE3 X e te) (hg : PG3 X tg is g) (hs : swapsWithSole [tg] e pos.line X.env = pure false := by rfl) (hw : swappedStores [tg] e X.env = pure none := by rfl)
    (h1 : (assignEach [tg] X.env).map (·.2) = [assign tg X.env] := by rfl) : PS3 X (.Assign [tg] e pos) (sAsg te g) := fun E tk => by
  obtain ⟨t, p, q⟩ := h E tk
  obtain ⟨t2, p2, q2⟩ := hg
  refine ⟨_, ps_asg p p2 hs hw h1, fun D D3 σ H γ G he ho hs hr h3 => ?_⟩
  cases E; dsimp only at he; subst he
  refine q σ H γ G _ _ hs hr h3 fun v H' w G' x r rv h => ?_
  exact q2 v w σ H' γ G' _ _ (hs.ext x) r rv h fun σ2 H2 γ2 G2 y s2 r2 _ h => ho.nx σ2 H2 γ2 G2 (x.trans y) s2 r2 h

/-! ### loops -/
theorem for_sim {J : L2.It} {J3 : It} {g3 : TG} {g : L2.TG} {b3 : TS} {tb : L2.TS} {E : EX} {D : L2.Ends} {D3 : Ends} {all : List W} {is : List Nat} {σ : St} {H : Hp} {γ : Fr} {G : Gh}
    (hJ : SimIt X.K H J J3) (hg : SimG X.K is g g3) (hb : SimS X.K E.h0 E tb b3) (he : D3.ex = E) (ho : EndsOk X.K E.h0 H D3 D) (hs : RepS X.K E.h0 H γ σ) (hr : Rel X.K H G) (h : forL J3 all g3 b3 D3 all γ G) :
    ∃ Wv : Nat → Nat → St → Hp → Prop, (∃ m, Wv 0 m σ H) ∧ ∀ i m σ H, Wv i m σ H →
      (J.stop i H ∧ D.nx σ H) ∨ (J.go i H ∧ ∃ N : St → Hp → Prop, (∀ σ' H', N σ' H' → ∃ m', m' < m ∧ Wv (i + 1) m' σ' H') ∧ ∀ x H', J.yld i H x H' → g x σ H' fun σ2 H2 => tb { D with nx := N, ct := N, bk := D.nx } σ2 H2) := by
  refine ⟨fun i m σ' H' => m = all.length - i ∧ i ≤ all.length ∧ ∃ γ' G', Ext X.K H H' ∧ RepS X.K E.h0 H' γ' σ' ∧ Rel X.K H' G' ∧ forL J3 all g3 b3 D3 (all.drop i) γ' G', ⟨_, rfl, Nat.zero_le _, γ, G, .refl, hs, hr, h⟩, ?_⟩
  rintro i m σ1 H1 ⟨rfl, hi, γ1, G1, x1, s1, r1, h1⟩
  by_cases hlt : i < all.length
  · rw [List.drop_eq_getElem_cons hlt, forL_cons] at h1
    obtain ⟨ej, h1⟩ := h1
    obtain ⟨j1, j2⟩ := hJ i H1 G1 all x1 r1 ej
    obtain ⟨go, yl⟩ := j1 all[i] (by simp [hlt])
    refine .inr ⟨go, fun σ' H' => ∃ γ' G', Ext X.K H H' ∧ RepS X.K E.h0 H' γ' σ' ∧ Rel X.K H' G' ∧ forL J3 all g3 b3 D3 (all.drop (i + 1)) γ' G', fun σ' H' q => ⟨_, by omega, rfl, hlt, q⟩, fun x H2 y => ?_⟩
    obtain ⟨x2, r2, rx⟩ := yl x H2 y
    refine hg x _ σ1 H2 γ1 G1 _ _ (s1.ext x2) r2 rx h1 fun σ3 H3 γ3 G3 x3 s3 r3 _ h3 => ?_
    have y1 := (x1.trans x2).trans x3
    refine hb _ { D3 with nx := forL J3 all g3 b3 D3 (all.drop (i + 1)), ct := forL J3 all g3 b3 D3 (all.drop (i + 1)), bk := D3.nx } σ3 H3 γ3 G3 he ⟨fun σ' H' γ' G' y s r q => ⟨γ', G', y1.trans y, s, r, q⟩, fun v H' w G' y => ho.rt v H' w G' (y1.trans y), fun σ' H' γ' G' y => ho.nx σ' H' γ' G' (y1.trans y), fun σ' H' γ' G' y s r q => ⟨γ', G', y1.trans y, s, r, q⟩⟩ s3 r3 h3
  · have e : i = all.length := by omega
    subst e
    rw [List.drop_length, forL_nil] at h1
    exact .inl ⟨(hJ _ H1 G1 all x1 r1 h1.1).2 (Nat.le_refl _), ho.nx σ1 H1 γ1 G1 x1 s1 r1 h1.2⟩
theorem ps3_for {tg iter : Expr} {body : List Stmt} {is : List Nat} {wi : TI} {g : TG} {b : TS} (hp : PassesOwn (model X.prog X.w) X.A X.env X.xe) (hc : X.calm = true) (hi : PI3 X tg iter wi) (hg : PG3 X tg is g) (hb : PSs3 X body b)
    (hs : ∀ x, foldedSetIterable iter X.env x = pure x := by intro _; rfl) : PS3 X (.For tg iter body [] pos) (sFor wi g b) := fun E tk => by
  obtain ⟨t1, p1, q1⟩ := hi E tk
  obtain ⟨t2, p2, q2⟩ := hg
  obtain ⟨t3, p3, q3⟩ := hb E tk
  refine ⟨_, ps_for hp hc p1 p2 p3 hs, fun D D3 σ H γ G he ho hs hr h3 => ?_⟩
  have he' := he
  cases E; dsimp only at he; subst he
  refine q1 σ H γ G _ _ hs hr h3 fun J J3 H1 G1 x r sj h => ?_
  obtain ⟨all, e, h⟩ := h
  exact for_sim sj q2 q3 he' (ho.ext x) (hs.ext x) r h
theorem ps3_while {c : Expr} {body : List Stmt} {tc : TT} {b : TS} (hp : PassesOwn (model X.prog X.w) X.A X.env X.xe) (hc : PT3 X c tc) (hb : PSs3 X body b) : PS3 X (.While c body [] pos) (sWhile tc b) := fun E tk => by
  obtain ⟨t1, p1, q1⟩ := hc E tk
  obtain ⟨t2, p2, q2⟩ := hb E tk
  refine ⟨_, ps_while hp p1 p2, fun D D3 σ H γ G he ho hs hr h3 => ?_⟩
  have he' := he
  obtain ⟨ex0, z0⟩ := E; dsimp only at he; subst he
  obtain ⟨n, h⟩ := h3
  refine ⟨fun m σ' H' => ∃ γ' G', Ext X.K H H' ∧ RepS X.K z0 H' γ' σ' ∧ Rel X.K H' G' ∧ whileN tc b D3 m γ' G', ⟨n, γ, G, .refl, hs, hr, h⟩, ?_⟩
  rintro m σ1 H1 ⟨γ1, G1, x1, s1, r1, h1⟩
  cases m with
  | zero => exact h1.elim
  | succ m =>
    rw [whileN_succ] at h1
    refine q1 σ1 H1 γ1 G1 _ _ s1 r1 h1 fun k H2 G2 x2 r2 h => ?_
    have y1 := x1.trans x2
    cases k with
    | true =>
      refine iteT ⟨fun σ' H' => ∃ γ' G', Ext X.K H H' ∧ RepS X.K z0 H' γ' σ' ∧ Rel X.K H' G' ∧ whileN tc b D3 m γ' G', fun σ' H' q => ⟨m, Nat.lt_succ_self m, q⟩, ?_⟩
      refine q2 _ { D3 with nx := whileN tc b D3 m, ct := whileN tc b D3 m, bk := D3.nx } σ1 H2 γ1 G2 he' ⟨fun σ' H' γ' G' y s r q => ⟨γ', G', y1.trans y, s, r, q⟩, fun v H' w G' y => ho.rt v H' w G' (y1.trans y), fun σ' H' γ' G' y => ho.nx σ' H' γ' G' (y1.trans y), fun σ' H' γ' G' y s r q => ⟨γ', G', y1.trans y, s, r, q⟩⟩ (s1.ext x2) r2 (by simpa using h)
    | false => exact iteF (ho.nx σ1 H2 γ1 G2 y1 (s1.ext x2) r2 (by simpa using h))
end
end L3

end
section
/-! L3SndC: what is walked, comprehensions, calls of defs, of built-ins and of their methods, displays. -/
namespace L3
open PySem PySem.Spec PyProof.Rows L2

/-! ### the widest reading that L3's gives -/
def canE (K : Frag) (E : Fr → XQ) (t3 : TE) : L2.TE := fun σ H Q => ∃ Z0 γ G Q3, RepS K Z0 H γ σ ∧ Rel K H G ∧ t3 γ G (E γ) Q3 ∧ ∀ v H' w G', Ext K H H' → Rel K H' G' → Rep K H' w v → Q3 w G' → Q v H'
def canT (K : Frag) (E : Fr → XQ) (t3 : TT) : L2.TT := fun σ H Q => ∃ Z0 γ G Q3, RepS K Z0 H γ σ ∧ Rel K H G ∧ t3 γ G (E γ) Q3 ∧ ∀ b H' G', Ext K H H' → Rel K H' G' → Q3 b G' → Q b H'
def canG (K : Frag) (is : List Nat) (t3 : TG) : L2.TG := fun v σ H Q => ∃ Z0 w γ G Q3, RepS K Z0 H γ σ ∧ Rel K H G ∧ Rep K H w v ∧ t3 w γ G Q3 ∧ ∀ σ' H' γ' G', Ext K H H' → RepS K Z0 H' γ' σ' → Rel K H' G' → Only is σ σ' → Q3 γ' G' → Q σ' H'
section
variable {X : Cx} {e : Expr} {te : TE} {tt : TT} {g : TG} {is : List Nat}
theorem PE3.can {E : Fr → XQ} (h : PE3 X e te) (tk : ∀ Z0, TakesE X ⟨E, Z0⟩) : PE X e (canE X.K E te) := by
  refine ⟨fun pins s σ H Q I ⟨Z0, γ, G, Q3, hs, hr, h3, k⟩ => ?_⟩
  obtain ⟨t, p, q⟩ := h ⟨E, Z0⟩ (tk Z0)
  exact p.run pins s σ H Q I (q σ H γ G Q3 Q hs hr h3 k)
theorem PT3.can {E : Fr → XQ} (h : PT3 X e tt) (tk : ∀ Z0, TakesE X ⟨E, Z0⟩) : PT X e (canT X.K E tt) := by
  refine ⟨fun pins s σ H Q I ⟨Z0, γ, G, Q3, hs, hr, h3, k⟩ => ?_⟩
  obtain ⟨t, p, q⟩ := h ⟨E, Z0⟩ (tk Z0)
  exact p.run pins s σ H Q I (q σ H γ G Q3 Q hs hr h3 k)
theorem PG3.can (h : PG3 X e is g) : PG X e (canG X.K is g) := by
  obtain ⟨t, p, q⟩ := h
  exact ⟨fun pins s σ H v u Q I r ⟨Z0, w, γ, G, Q3, hs, hr, rv, h3, k⟩ => p.run pins s σ H v u Q I r (q v w σ H γ G Q3 Q hs hr rv h3 k)⟩
theorem takes0E {X : Cx} (Z0 : Hp) : TakesE X ⟨fun _ => X0, Z0⟩ := fun _ _ x => by
  obtain ⟨_, _, _, _, _, _, _, _, _, _, _, _, _, _, _, _, _, _, _, _, _, _, _, _, z⟩ := x
  exact z.elim
end
/-- a clause's tests -/
def PTs3 (X : Cx) (ifs : List Expr) (t3 : TT) : Prop := PTs X ifs (canT X.K (fun _ => X0) t3)
theorem pts3_nil {X : Cx} : PTs3 X [] tYes := ⟨fun pins s σ H Q I ⟨Z0, γ, G, Q3, hs, hr, h3, k⟩ => pts_nil.run pins s σ H Q I (k true H G .refl hr h3)⟩
theorem pts3_one {X : Cx} {c : Expr} {t : TT} (h : PT3 X c t) : PTs3 X [c] t := pts_one (h.can takes0E)

theorem wipe_in {σ : St} {j : Nat} : ∀ {vs : List Nat}, j ∈ vs → j < σ.length → (L2.wipe σ vs)[j]? = some none
  | [], h, _ => nomatch h
  | v :: vs, h, hl => by
    unfold L2.wipe
    by_cases e : v = j
    · subst e
      rw [List.getElem?_set_self (by rw [wipe_length]; exact hl)]
    · rw [List.getElem?_set_ne e]
      exact wipe_in ((List.mem_cons.mp h).resolve_left (Ne.symm e)) hl
theorem Only.wiped {is vs : List Nat} {σ σ' : St} (o : Only is σ σ') (h : ∀ i ∈ is, i ∈ vs) : L2.wipe σ' vs = L2.wipe σ vs := by
  apply List.ext_getElem?
  intro j
  by_cases hj : j ∈ vs
  · by_cases hl : j < σ.length
    · rw [wipe_in hj hl, wipe_in hj (by rw [o.1]; exact hl)]
    · rw [List.getElem?_eq_none (by rw [wipe_length, o.1]; omega), List.getElem?_eq_none (by rw [wipe_length]; omega)]
  · rw [wipe_out hj, wipe_out hj]
    exact o.2 j fun z => hj (h j z)
theorem wipe_wipe {σ : St} {vs : List Nat} : L2.wipe (L2.wipe σ vs) vs = L2.wipe σ vs := by
  apply List.ext_getElem?
  intro j
  by_cases hj : j ∈ vs
  · by_cases hl : j < σ.length
    · rw [wipe_in hj (by rw [wipe_length]; exact hl), wipe_in hj hl]
    · rw [List.getElem?_eq_none (by rw [wipe_length, wipe_length]; omega), List.getElem?_eq_none (by rw [wipe_length]; omega)]
  · rw [wipe_out hj]

section
variable {X : Cx}
theorem lc_sim {J : L2.It} {J3 : It} {g3 : TG} {t3 : TT} {e3 : TE} {is vs : List Nat} {Q3 : QV} {Q : VK} {all : List W} {σ : St} {Z0 H : Hp} {γ : Fr} {G : Gh} {D : Addr}
    (hJ : SimIt X.K H J J3) (hv : ∀ i ∈ is, i ∈ vs) (hs : RepS X.K Z0 H γ σ) (hr : Rel X.K (upd H D (.lst [])) (up G D (.lst []))) (hD : H D = none)
    (h : lcL J3 all g3 t3 e3 (wipe γ vs) D X0 Q3 all [] (up G D (.lst []))) (k : ∀ v H' w G', Ext X.K H H' → Rel X.K H' G' → Rep X.K H' w v → Q3 w G' → Q v H') :
    ∃ Wv : Nat → Nat → Hp → Prop, (∃ m, Wv 0 m (upd H D (.lst []))) ∧ ∀ i m H, Wv i m H →
      (J.stop i H ∧ Q (.ref D) H) ∨ (J.go i H ∧ ∃ Nx : Hp → Prop, (∀ H', Nx H' → ∃ m', m' < m ∧ Wv (i + 1) m' H') ∧ ∀ x H', J.yld i H x H' → canG X.K is g3 x (L2.wipe σ vs) H' fun σ2 H2 => L2.wipe σ2 vs = L2.wipe σ vs ∧ canT X.K (fun _ => X0) t3 σ2 H2 fun b H3 =>
        if b = true then canE X.K (fun _ => X0) e3 σ2 H3 fun y H4 => ∃ acc, H4 D = some (.lst acc) ∧ acc.length < sizeLine ∧ Nx (upd H4 D (.lst (acc ++ [y]))) else Nx H3) := by
  refine ⟨fun i m H' => m = all.length - i ∧ i ≤ all.length ∧ ∃ acc G', Ext X.K H H' ∧ Rel X.K H' G' ∧ lcL J3 all g3 t3 e3 (wipe γ vs) D X0 Q3 (all.drop i) acc G', ⟨_, rfl, Nat.zero_le _, [], _, .new hD, hr, h⟩, ?_⟩
  rintro i m H1 ⟨rfl, hi, acc, G1, x1, r1, h1⟩
  by_cases hlt : i < all.length
  · rw [List.drop_eq_getElem_cons hlt, lcL] at h1
    obtain ⟨ej, eD, h1⟩ := h1
    obtain ⟨go, yl⟩ := (hJ i H1 G1 all x1 r1 ej).1 all[i] (by simp [hlt])
    refine .inr ⟨go, fun H' => ∃ acc G', Ext X.K H H' ∧ Rel X.K H' G' ∧ lcL J3 all g3 t3 e3 (wipe γ vs) D X0 Q3 (all.drop (i + 1)) acc G', fun H' q => ⟨_, by omega, rfl, hlt, q⟩, fun x H2 y => ?_⟩
    obtain ⟨x2, r2, rx⟩ := yl x H2 y
    have hs2 : RepS X.K Z0 H2 (wipe γ vs) (L2.wipe σ vs) := (hs.wipe vs).ext (x1.trans x2)
    refine ⟨_, _, _, _, _, hs2, r2, rx, h1, fun σ3 H3 γ3 G3 x3 s3 r3 o3 h3 => ⟨(o3.wiped hv).trans wipe_wipe, _, _, _, _, s3, r3, h3, fun b H4 G4 x4 r4 h4 => ?_⟩⟩
    cases b with
    | true =>
      refine iteT ⟨_, _, _, _, s3.ext x4, r4, by simpa using h4, fun v5 H5 w5 G5 x5 r5 rv5 h5 => ?_⟩
      obtain ⟨e5, z5, h5⟩ := h5
      obtain ⟨xs, ex, rx⟩ := r5.lst e5
      refine ⟨xs, ex, by rw [← rx.length]; exact z5, acc ++ [w5], _, ?_, ?_, h5⟩
      · exact (((x1.trans x2).trans x3).trans (x4.trans x5)).trans (.write (by rw [ex]; trivial))
      · exact r5.write (by rw [ex]; trivial) ⟨_, upd_same, (rx.append (.one rv5)).ext (.write (by rw [ex]; trivial))⟩
    | false => exact iteF ⟨acc, _, ((x1.trans x2).trans x3).trans x4, r4, by simpa using h4⟩
  · have e : i = all.length := by omega
    subst e
    rw [List.drop_length, lcL] at h1
    exact .inl ⟨(hJ _ H1 G1 all x1 r1 h1.1).2 (Nat.le_refl _), k _ H1 _ G1 x1 r1 rref h1.2.2⟩
theorem pe3_lc {elt tg iter : Expr} {ifs : List Expr} {scope : Scope} {own : List (Str × Nat)} {is : List Nat} {pos : Pos} {wi : TI} {g : TG} {tt : TT} {te : TE} (hc : X.calm = true) (hN : X.N.Nodup) (hi : PI3 X tg iter wi) (ok : BlkOk X.N X.env.scope scope own)
    (hg : ∀ (s : Shared) (H : Hp) (C : Addr) (cl : List (Str × Addr)) (fp : List Addr), PG3 (X.blk s H scope (compEnvC scope cl C X.env) fp) tg is g) (ht : ∀ (s : Shared) (H : Hp) (C : Addr) (cl : List (Str × Addr)) (fp : List Addr), PTs3 (X.blk s H scope (compEnvC scope cl C X.env) fp) ifs tt)
    (he : ∀ (s : Shared) (H : Hp) (C : Addr) (cl : List (Str × Addr)) (fp : List Addr), PE3 (X.blk s H scope (compEnvC scope cl C X.env) fp) elt te) (hv : ∀ i ∈ is, i ∈ own.map (·.2) := by decide) (hs : ∀ x, foldedSetIterable iter X.env x = pure x := by intro _; rfl) :
    PE3 X (.ListComp elt [⟨tg, iter, ifs, 0⟩] scope pos) (eLc wi g tt te (own.map (·.2))) := fun E tk => by
  obtain ⟨t1, p1, q1⟩ := hi E tk
  refine ⟨_, pe_lc (g := canG X.K is g) (tt := canT X.K (fun _ => X0) tt) (te := canE X.K (fun _ => X0) te) hc hN p1 ok (fun s H C cl fp => (hg s H C cl fp).can) (fun s H C cl fp => ht s H C cl fp) (fun s H C cl fp => (he s H C cl fp).can (E := fun _ => X0) takes0E) hs, fun σ H γ G Q3 Q hs hr h3 k => ?_⟩
  refine q1 σ H γ G _ _ hs hr h3 fun J J3 H1 G1 x r sj h => fun D hD => ?_
  obtain ⟨all, _, h⟩ := h D (r.free hD)
  exact lc_sim sj hv (hs.ext x) (r.new hD ⟨_, upd_same, .nil⟩) hD h fun v H' w G' y => k v H' w G' (x.trans y)
theorem ps3_setLc {i : Nat} {y : Str} {py : Pos} {elt tg iter : Expr} {ifs : List Expr} {scope : Scope} {own : List (Str × Nat)} {is : List Nat} {pos spos : Pos} {wi : TI} {g : TG} {tt : TT} {te : TE} (hc : X.calm = true) (hN : X.N.Nodup) (hy : X.N[i]? = some y) (hyl : X.env.scope.names.lookup y = some .local)
    (hsw : swapsWith (.ListComp elt [⟨tg, iter, ifs, 0⟩] scope pos) (some (.Name y py)) spos.line X.env = pure true) (hi : PI3 X tg iter wi) (ok : BlkOk X.N X.env.scope scope own)
    (hg : ∀ (s : Shared) (H : Hp) (C : Addr) (cl : List (Str × Addr)) (fp : List Addr), PG3 (X.blk s H scope (compEnvC scope cl C X.env) fp) tg is g) (ht : ∀ (s : Shared) (H : Hp) (C : Addr) (cl : List (Str × Addr)) (fp : List Addr), PTs3 (X.blk s H scope (compEnvC scope cl C X.env) fp) ifs tt)
    (he : ∀ (s : Shared) (H : Hp) (C : Addr) (cl : List (Str × Addr)) (fp : List Addr), PE3 (X.blk s H scope (compEnvC scope cl C X.env) fp) elt te) (hv : ∀ i ∈ is, i ∈ own.map (·.2) := by decide) (hs : ∀ x, foldedSetIterable iter X.env x = pure x := by intro _; rfl) :
    PS3 X (.Assign [.Name y py] (.ListComp elt [⟨tg, iter, ifs, 0⟩] scope pos) spos) (sSet i (eLc wi g tt te (own.map (·.2)))) := fun E tk => by
  obtain ⟨t1, p1, q1⟩ := hi E tk
  refine ⟨_, ps_setLc (g := canG X.K is g) (tt := canT X.K (fun _ => X0) tt) (te := canE X.K (fun _ => X0) te) hc hN hy hyl hsw p1 ok (fun s H C cl fp => (hg s H C cl fp).can) (fun s H C cl fp => ht s H C cl fp) (fun s H C cl fp => (he s H C cl fp).can (E := fun _ => X0) takes0E) hs, fun D D3 σ H γ G hE ho hs hr h3 => ?_⟩
  cases E; dsimp only at hE; subst hE
  refine q1 σ H γ G _ _ hs hr h3 fun J J3 H1 G1 x r sj h => fun D hD => ?_
  obtain ⟨all, _, h⟩ := h D (r.free hD)
  exact lc_sim sj hv (hs.ext x) (r.new hD ⟨_, upd_same, .nil⟩) hD h fun v H' w G' y r' rv h => ho.nx _ H' _ G' (x.trans y) ((hs.ext (x.trans y)).put rv) r' h

/-! ### what is walked -/
variable {tg l : Expr} {tl : TE} {pos : Pos}
/-- what iter() gives of a value -/
def ItV (X : Cx) (tg : Expr) (r : V → Hp → (L2.It → Hp → Prop) → Prop) : Prop := ∀ (pins : List (Addr × Obj)) (s : Shared) (σ : St) (H : Hp) (x : V) (v : Value) (R : L2.It → Hp → Prop), Inv X pins σ H s → RelV x v → r x H R →
  wpAny (model X.prog X.w) X.A (pyIter v) (PIE X pins σ tg R) X.xe s
theorem itv_list : ItV X tg fun x H R => ∃ a, x = .ref a ∧ (∃ xs, SqL X.K H a xs) ∧ R (Itl X.K a) H := by
  intro pins s σ H x v R I r h
  obtain ⟨a, rfl, ⟨xs, hq⟩, q⟩ := h
  cases r
  obtain ⟨its, rv, p, hz⟩ := I.list hq
  have I' : Inv X pins σ H { s with heap := s.heap.push { cls := .type "list_iterator", data := .fields #[.ref a, rawInt 0] } } := I.kept (t' := s.toks) fun b o e => Heap.get?_push_of_some _ e
  refine wpAny_pyIter_list p.isList ⟨_, [s.heap.objs.size], _, _, H, rfl, I', turn_list a _, ⟨_, Heap.get?_push_size _ rfl, rfl, rfl⟩, ?_, q⟩
  intro b hb
  rw [List.mem_singleton.mp hb]
  exact I.fpOk (Nat.le_refl _) (I.hok.fresh (Nat.le_refl _))
theorem itv_tup : ItV X tg fun x H R => ∃ a, x = .ref a ∧ (∃ xs, SqT X.K H a xs) ∧ R (Itt X.K a) H := by
  intro pins s σ H x v R I r h
  obtain ⟨a, rfl, ⟨xs, hq⟩, q⟩ := h
  cases r
  obtain ⟨its, rv, p, hz⟩ := I.tuple hq
  have I' : Inv X pins σ H { s with heap := s.heap.push { cls := .type "tuple_iterator", data := .fields #[.ref a, rawInt 0] } } := I.kept (t' := s.toks) fun b o e => Heap.get?_push_of_some _ e
  refine wpAny_pyIter_tuple (show s.heap.IsTuple a its.toArray from p) ⟨_, [s.heap.objs.size], _, _, H, rfl, I', turn_tuple a _, ⟨_, Heap.get?_push_size _ rfl, rfl, rfl⟩, ?_, q⟩
  intro b hb
  rw [List.mem_singleton.mp hb]
  exact I.fpOk (Nat.le_refl _) (I.hok.fresh (Nat.le_refl _))
theorem itv_str : ItV X tg fun x H R => ∃ z, x = .str z ∧ R (Its z) H := by
  intro pins s σ H x v R I r h
  obtain ⟨z, rfl, q⟩ := h
  obtain ⟨t, rfl⟩ := r
  cases ha : z.cps.all (· < 128) with
  | false => exact wpAny_pyIter_wide ha (pi_one (tk := s.toks) I _ (turn_str _ z t "str_iterator" (Or.inr rfl)) ⟨_, Heap.get?_push_size _ rfl, rfl, rfl⟩ q)
  | true => exact wpAny_pyIter_ascii ha (pi_one (tk := s.toks) I _ (turn_str _ z t "str_ascii_iterator" (Or.inl rfl)) ⟨_, Heap.get?_push_size _ rfl, rfl, rfl⟩ q)
theorem ItV.or {r r' : V → Hp → (L2.It → Hp → Prop) → Prop} (a : ItV X tg r) (b : ItV X tg r') : ItV X tg fun x H R => r x H R ∨ r' x H R := fun pins s σ H x v R I rv h =>
  h.elim (a pins s σ H x v R I rv) (b pins s σ H x v R I rv)
theorem get_of_rep {K : Frag} {H : Hp} {ws : List W} {xs : List V} {i : Nat} {w : W} (r : RepL K H ws xs) (e : ws[i]? = some w) : ∃ x, xs[i]? = some x ∧ Rep K H w x := r.get e
theorem simIt_list {K : Frag} {H0 : Hp} {a : Addr} : SimIt K H0 (Itl K a) (items (.ref a)) := by
  intro i H G all x r e
  have e' : G a = some (.lst all) ∨ G a = some (.rdl all) := by
    cases q : G a with
    | none => simp only [items, q] at e; cases e
    | some o =>
      cases o with
      | lst ws => simp only [items, q] at e; cases e; exact .inl rfl
      | rdl ws => simp only [items, q] at e; cases e; exact .inr rfl
      | _ => simp only [items, q] at e; cases e
  obtain ⟨xs, h1, h2⟩ := r.seq e'
  refine ⟨fun w ew => ?_, fun hl => ⟨xs, h1, by rw [← h2.length]; exact hl⟩⟩
  obtain ⟨y, e1, e2⟩ := h2.get ew
  refine ⟨⟨xs, y, h1, e1⟩, fun z H' hy => ?_⟩
  obtain ⟨rfl, hy⟩ := hy
  have ez : z = y := Option.some.inj ((hy xs h1).symm.trans e1)
  subst ez
  exact ⟨.refl, r, e2⟩
theorem simIt_tup {K : Frag} {H0 : Hp} {a : Addr} {ws : List W} {xs : List V} (h1 : SqT K H0 a xs) (h2 : RepL K H0 ws xs) : SimIt K H0 (Itt K a) (items (.tup ws)) := by
  intro i H G all x r e
  cases e
  refine ⟨fun w ew => ?_, fun hl => ⟨xs, (x _ _).1 h1, by rw [← h2.length]; exact hl⟩⟩
  obtain ⟨y, e1, e2⟩ := (h2.ext x).get ew
  refine ⟨⟨xs, y, (x _ _).1 h1, e1⟩, fun z H' hy => ?_⟩
  obtain ⟨rfl, hy⟩ := hy
  have ez : z = y := Option.some.inj ((hy xs ((x _ _).1 h1)).symm.trans e1)
  subst ez
  exact ⟨.refl, r, e2⟩
theorem simIt_ktp {K : Frag} {H0 : Hp} {a : Addr} {ws : List W} {xs : List V} (h1 : SqT K H0 a xs) (h2 : RepL K H0 ws xs) : SimIt K H0 (Itt K a) (items (.ktp ws)) := by
  intro i H G all x r e
  cases e
  refine ⟨fun w ew => ?_, fun hl => ⟨xs, (x _ _).1 h1, by rw [← h2.length]; exact hl⟩⟩
  obtain ⟨y, e1, e2⟩ := (h2.ext x).get ew
  refine ⟨⟨xs, y, (x _ _).1 h1, e1⟩, fun z H' hy => ?_⟩
  obtain ⟨rfl, hy⟩ := hy
  have ez : z = y := Option.some.inj ((hy xs ((x _ _).1 h1)).symm.trans e1)
  subst ez
  exact ⟨.refl, r, e2⟩
theorem sql_none {K : Frag} {H : Hp} {a : Addr} {xs : List V} (h : SqL K (fun _ => none) a xs) : SqL K H a xs := by
  rcases h with (h | ⟨o, h⟩) | h
  · cases h
  · cases h
  · exact .inr h
theorem simIt_kl {K : Frag} {H0 : Hp} {a : Addr} {ws : List W} {xs : List V} (h1 : SqL K (fun _ => none) a xs) (h2 : RepL K H0 ws xs) : SimIt K H0 (Itl K a) (items (.kl ws)) := by
  intro i H G all x r e
  cases e
  refine ⟨fun w ew => ?_, fun hl => ⟨xs, sql_none h1, by rw [← h2.length]; exact hl⟩⟩
  obtain ⟨y, e1, e2⟩ := (h2.ext x).get ew
  refine ⟨⟨xs, y, sql_none h1, e1⟩, fun z H' hy => ?_⟩
  obtain ⟨rfl, hy⟩ := hy
  have ez : z = y := Option.some.inj ((hy xs (sql_none h1)).symm.trans e1)
  subst ez
  exact ⟨.refl, r, e2⟩
theorem simIt_str {K : Frag} {H0 : Hp} {l : List Nat} : SimIt K H0 (Its (S l)) (items (.str l)) := by
  intro i H G all x r e
  cases e
  have sz : (S l).cps.size = l.length := by simp [S]
  refine ⟨fun w ew => ?_, fun hl => ?_⟩
  · rw [List.getElem?_map] at ew
    cases q : l[i]? with
    | none => rw [q] at ew; cases ew
    | some c =>
      rw [q] at ew
      have hi : i < l.length := (List.getElem?_eq_some_iff.mp q).1
      refine ⟨by show i < (S l).cps.size; rw [sz]; exact hi, fun z H' hy => ?_⟩
      obtain ⟨rfl, c', ec, rfl⟩ := hy
      have ec' : l[i]? = some c' := by
        have : (S l).cps[i]? = l[i]? := by simp [S]
        rw [← this]; exact ec
      rw [q] at ec'
      cases ec'
      cases ew
      exact ⟨.refl, r, rstr⟩
  · show (S l).cps.size ≤ i
    rw [sz]
    rw [List.length_map] at hl
    exact hl
theorem pi3_val (h : PE3 X l tl) : PI3 X tg l (iVal tl) := fun E tk => by
  obtain ⟨t, p, q⟩ := h E tk
  have hv := (itv_list (X := X) (tg := tg)).or ((itv_tup (X := X) (tg := tg)).or itv_str)
  refine ⟨_, ⟨fun pins s σ H R I hw => thn (p.run pins s σ H _ I hw) fun v s1 ⟨x, H1, I1, r1, q1⟩ => hv pins s1 σ H1 x v R I1 r1 q1⟩, fun σ H γ G R3 R hs hr h3 k => ?_⟩
  refine q σ H γ G _ _ hs hr h3 fun v H1 w G1 x1 r1 rv h3 => ?_
  cases w with
  | tup ws =>
    obtain ⟨a, xs, rfl, s1, s2⟩ := rep_tup rv
    exact .inr (.inl ⟨a, rfl, ⟨xs, s1⟩, k _ _ H1 G1 x1 r1 (simIt_tup s1 s2) h3.2⟩)
  | ktp ws =>
    obtain ⟨a, xs, rfl, s1, s2⟩ := rep_ktp rv
    exact .inr (.inl ⟨a, rfl, ⟨xs, s1⟩, k _ _ H1 G1 x1 r1 (simIt_ktp s1 s2) h3.2⟩)
  | kl ws =>
    simp only [Rep] at rv
    obtain ⟨a, xs, rfl, s1, s2⟩ := rv
    exact .inl ⟨a, rfl, ⟨xs, sql_none s1⟩, k _ _ H1 G1 x1 r1 (simIt_kl s1 s2) h3.2⟩
  | str z =>
    simp only [Rep] at rv
    subst rv
    exact .inr (.inr ⟨_, rfl, k _ _ H1 G1 x1 r1 simIt_str h3.2⟩)
  | ref a =>
    simp only [Rep] at rv
    subst rv
    have hq : ∃ xs, SqL X.K H1 a xs := by
      cases q : G1 a with
      | none => have z := h3.1; simp only [items, q] at z; cases z
      | some o =>
        cases o with
        | lst ws => obtain ⟨xs, e, _⟩ := r1.seq (.inl q); exact ⟨xs, e⟩
        | rdl ws => obtain ⟨xs, e, _⟩ := r1.seq (.inr q); exact ⟨xs, e⟩
        | _ => have z := h3.1; simp only [items, q] at z; cases z
    exact .inl ⟨a, rfl, hq, k _ _ H1 G1 x1 r1 simIt_list h3.2⟩
  | _ => have z := h3.1; cases z
theorem simIt_rng {K : Frag} {H0 : Hp} {lo : Int} {n : Nat} : SimIt K H0 (Itr lo n) (fun _ => some (rangeW lo n)) := by
  intro i H G all x r e
  cases e
  have hl : (rangeW lo n).length = n := by simp [rangeW]
  refine ⟨fun w ew => ?_, fun h => by rw [hl] at h; exact h⟩
  have hi : i < n := by rw [← hl]; exact (List.getElem?_eq_some_iff.mp ew).1
  refine ⟨hi, fun z H' hy => ?_⟩
  obtain ⟨rfl, rfl⟩ := hy
  have e : w = .int (lo + i) := by
    unfold rangeW at ew
    rw [List.getElem?_map, List.getElem?_range hi] at ew
    exact (Option.some.inj ew).symm
  subst e
  exact ⟨.refl, r, rint⟩
theorem rep_int1 {K : Frag} {H : Hp} {i : Int} {v : V} (h : Rep K H (.int i) v) : v = .int i := by simpa only [Rep] using h
theorem repl1 {K : Frag} {H : Hp} {w : W} {vs : List V} (h : RepL K H [w] vs) : ∃ v, vs = [v] ∧ Rep K H w v := by
  simp only [RepL] at h
  obtain ⟨v, r, rfl, a, rfl⟩ := h
  exact ⟨v, rfl, a⟩
theorem repl2 {K : Frag} {H : Hp} {w z : W} {vs : List V} (h : RepL K H [w, z] vs) : ∃ v u, vs = [v, u] ∧ Rep K H w v ∧ Rep K H z u := by
  simp only [RepL] at h
  obtain ⟨v, r, rfl, a, u, r', rfl, b, rfl⟩ := h
  exact ⟨v, u, rfl, a, b⟩
theorem pi3_range1 {a : Expr} {ta : TA} {p : Pos} (hg : Gl X "range") (hm : X.mg "range" = none) (ha : PA3 X [a] ta) (hs : starEach [a] X.env = [(false, eval a X.env)] := by rfl) : PI3 X tg (.Call (.Name "range" p) [a] [] pos) (iRng1 ta) := fun E tk => by
  obtain ⟨t, p1, q⟩ := ha E tk
  refine ⟨_, pi_range1 hg hm p1 hs, fun σ H γ G R3 R hs hr h3 k => ?_⟩
  refine q σ H γ G _ _ hs hr h3 fun vs H1 ws G1 x1 r1 rv h3 => ?_
  split at h3
  · obtain ⟨v, rfl, r1v⟩ := repl1 rv
    rw [rep_int1 r1v]
    exact ⟨_, rfl, h3.1.1, h3.1.2, k _ _ H1 G1 x1 r1 simIt_rng h3.2⟩
  · exact h3.elim
theorem pi3_range2 {a b : Expr} {ta : TA} {p : Pos} (hg : Gl X "range") (hm : X.mg "range" = none) (ha : PA3 X [a, b] ta) (hs : starEach [a, b] X.env = [(false, eval a X.env), (false, eval b X.env)] := by rfl) (hs2 : starEach [b] X.env = [(false, eval b X.env)] := by rfl) : PI3 X tg (.Call (.Name "range" p) [a, b] [] pos) (iRng2 ta) := fun E tk => by
  obtain ⟨t, p1, q⟩ := ha E tk
  refine ⟨_, pi_range2 hg hm p1 hs hs2, fun σ H γ G R3 R hs hr h3 k => ?_⟩
  refine q σ H γ G _ _ hs hr h3 fun vs H1 ws G1 x1 r1 rv h3 => ?_
  split at h3
  · obtain ⟨v, u, rfl, r1v, ru⟩ := repl2 rv
    rw [rep_int1 r1v, rep_int1 ru]
    exact ⟨_, _, rfl, ⟨h3.1.1, h3.1.2, h3.2.1.1, h3.2.1.2⟩, k _ _ H1 G1 x1 r1 simIt_rng h3.2.2⟩
  · exact h3.elim
end

/-! ### calls of defs -/
/-- what a def promises, in the hand layer's words -/
def low (K : Frag) (sp : Sp) : L2.Sp := fun vs H Q E => ∃ ws G Q3 E3, RepL K H ws vs ∧ Rel K H G ∧ sp ws G Q3 E3 ∧
  (∀ v H' w G', Ext K H H' → Rel K H' G' → Rep K H' w v → Q3 w G' → Q v H') ∧ (∀ d H' w es G', Rel K H' G' → exRep K H' d es → E3 w es G' → E (clsV w) d H')
abbrev Ok3 (P : Program) (w : World) (K : Frag) (mg : Str → Option Value) (base : Heap) (k : Nat) (f : Addr) (fd : FuncData) (ps : List Str) (sp : Sp) : Prop := FnOk P w K mg base (CXM P w) k f fd ps (low K sp)
theorem ub_ext {K : Frag} {fs : List Addr} {H H' : Hp} {h B h' : Heap} (u : UB fs H H' h B h') : Ext K H H' := fun a xs => by
  refine ⟨fun q => ?_, fun q => u.tups a xs q, fun o v q => u.frzs a o v q⟩
  rcases q with (q | ⟨o, q⟩) | q
  · exact .inl (.inl (u.tups a xs q))
  · exact .inl (.inr ⟨o, u.frzs a o _ q⟩)
  · exact .inr q
section
variable {X : Cx} {k : Nat} {f C : Addr} {fd : FuncData} {ps : List Str} {sp : Sp} {x m : Str} {p pos apos : Pos} {e o : Expr} {es : List Expr} {te : TE} {ta : TA} {Wx : WX}
/-- the callee runs; what it raises is wished for at these slots -/
theorem run3 {pins : List (Addr × Obj)} {σ : St} {H : Hp} {s : Shared} {Q : VK} {E : XK} {us : List Value} {vs : List V} {sp : L2.Sp} (F : FnOk X.prog X.w X.K X.mg X.base (CXM X.prog X.w) k f fd ps sp) (hr : Room k X.A) (hb : Binds X.K fd ps []) (tk : TkM X Wx)
    (hE : ∀ cls d H', Ext X.K H H' → E cls d H' → Wx cls d σ H') (I : Inv X pins σ H s) (r : Vals vs us) (h : sp vs H Q E) : wpAny (model X.prog X.w) X.A (call (.ref f) us) (EP X pins σ Q) X.xe s := by
  have hl : us.length = ps.length := r.length.symm.trans (F.len _ _ _ _ h)
  have b := hb s us I.kIn (by rw [List.append_nil]; exact hl)
  rw [List.append_nil] at b
  refine wpAny_call (codeAny_mono (F.run X.A X.stack s H ⟨us, []⟩ us vs Q E hr I.env0 b r h) fun res s' hq => ?_)
  match res, hq with
  | .error u, hq =>
    obtain ⟨a, B, H', cls, d, eu, fl, hok, ub, na, os, ag, he⟩ := hq
    exact tkM_call (E := fun cls d H' => E cls d H' ∧ Ext X.K H H') tk I (fun cls d H' z => hE cls d H' z.2 z.1) ⟨a, B, H', cls, d, eu, fl, hok, ub, na, os, ag, he, ub_ext ub⟩
  | .ok (.ret u), hq => exact I.after hq
/-- the promise at these slots -/
def tAt (K : Frag) (sp : L2.Sp) (Wx : WX) (t : L2.TA) : L2.TE := fun σ H Q => t σ H fun vs H1 => ∃ E : XK, (∀ cls d H', Ext K H1 H' → E cls d H' → Wx cls d σ H') ∧ sp vs H1 Q E
theorem at_sim {K : Frag} {E : EX} {t : L2.TA} (q : SimA K E.h0 t fun γ G Q => ta γ G (E γ) Q) : SimE K E.h0 (tAt K (low K sp) (lowX K E) t) fun γ G Q => eCall sp ta γ G (E γ) Q := by
  intro σ H γ G Q3 Q hs hr h3 k
  refine q σ H γ G _ _ hs hr h3 fun vs H1 ws G1 x1 r1 rv h3 => ?_
  refine ⟨fun cls d H' => ∃ w es G', Rel K H' G' ∧ cls = clsV w ∧ exRep K H' d es ∧ E γ w es G', fun cls d H' x ⟨w, es, G', a, b, c, z⟩ => ⟨γ, G', w, es, (hs.ext x1).ext x, a, b, c, z⟩, ws, G1, Q3, E γ, rv, r1, h3, fun v H' w G' x => k v H' w G' (x1.trans x), fun d H' w es G' a b z => ⟨w, es, G', a, rfl, b, z⟩⟩
theorem pe3_call (F : Ok3 X.prog X.w X.K X.mg X.base k f fd ps sp) (hr : Room k X.A) (hg : Gl X x) (hm : X.mg x = some (.ref f)) (hk : PySem.W.keepIn X.K (.ref f) = true) (hb : Binds X.K fd ps [])
    (ha : PA3 X (e :: es) ta) (hdb : (x == ("__debug__" : Str)) = false := by decide) (he : starEach (e :: es) X.env = (false, eval e X.env) :: starEach es X.env := by rfl) (hpl : (backTo pos (starEach es X.env)).any (·.1) = false := by rfl) :
    PE3 X (.Call (.Name x p) (e :: es) [] pos) (eCall sp ta) := fun E tk => by
  obtain ⟨t, p1, q⟩ := ha E tk
  refine ⟨_, ⟨fun pins s σ H Q I h => wpAny_Call_Name_kw (ld_glob I hg hm ?_ hdb)⟩, at_sim q⟩
  refine PySem.W.callWith_K (h₀ := X.base) I.ok.mod.kin hk (thn (p1.run pos pins s σ H _ I h) fun us s1 ⟨vs, H1, I1, r, XK', hE, q⟩ => ⟨I1.kIn, ?_⟩) he hpl
  exact run3 F hr hb tk hE I1 r q
theorem pe3_call0 (F : Ok3 X.prog X.w X.K X.mg X.base k f fd ps sp) (hr : Room k X.A) (hg : Gl X x) (hm : X.mg x = some (.ref f)) (hk : PySem.W.keepIn X.K (.ref f) = true) (hb : Binds X.K fd ps [])
    (hdb : (x == ("__debug__" : Str)) = false := by decide) : PE3 X (.Call (.Name x p) [] [] pos) (eCall sp aNil) := fun E tk => by
  obtain ⟨t, p1, q⟩ := (pa3_nil (X := X)) E tk
  refine ⟨tAt X.K (low X.K sp) (lowX X.K E) tNil, ⟨fun pins s σ H Q I h => wpAny_Call_Name_kw (ld_glob I hg hm ?_ hdb)⟩, at_sim fun σ H γ G Q3 Q hs hr h3 k => k [] H [] G .refl hr .nil h3⟩
  obtain ⟨XK', hE, q⟩ := h
  exact PySem.W.callWith_K0 I.kIn hk (run3 (us := []) F hr hb tk hE I .nil q)

/-! ### built-ins, by values -/
def CallR3 (X : Cx) (f : Value) (r3 : List W → Gh → QV → Prop) : Prop := ∃ r : List V → Hp → VK → Prop, CallR X f r ∧ ∀ ws vs H G Q3 Q, Rel X.K H G → RepL X.K H ws vs → r3 ws G Q3 →
  (∀ v H' w G', Ext X.K H H' → Rel X.K H' G' → Rep X.K H' w v → Q3 w G' → Q v H') → r vs H Q
theorem pe3_blt {id : String} {r3 : List W → Gh → QV → Prop} (hc : CallR3 X (.builtin id) r3) (hg : Gl X x) (hm : X.mg x = none) (hv : bootBuiltins x = some (.builtin id)) (ha : PA3 X (e :: es) ta) (hn : x ≠ "__name__" := by decide) (hdb : (x == ("__debug__" : Str)) = false := by decide)
    (he : starEach (e :: es) X.env = (false, eval e X.env) :: starEach es X.env := by rfl) (hpl : (backTo pos (starEach es X.env)).any (·.1) = false := by rfl) : PE3 X (.Call (.Name x p) (e :: es) [] pos) (eBlt r3 ta) := fun E tk => by
  obtain ⟨r, c1, c2⟩ := hc
  obtain ⟨t, p1, q⟩ := ha E tk
  refine ⟨_, pe_callB c1 hg hm hv p1 hn hdb he hpl, fun σ H γ G Q3 Q hs hr h3 k => ?_⟩
  refine q σ H γ G _ _ hs hr h3 fun vs H1 ws G1 x1 r1 rv h3 => ?_
  exact c2 ws vs H1 G1 _ _ r1 rv h3 fun v H' w G' x => k v H' w G' (x1.trans x)
theorem pe3_bty {T : String} {r3 : List W → Gh → QV → Prop} (hc : CallR3 X (.type T) r3) (hg : Gl X x) (hm : X.mg x = none) (hv : bootBuiltins x = some (.type T)) (ha : PA3 X (e :: es) ta) (hn : x ≠ "__name__" := by decide) (hdb : (x == ("__debug__" : Str)) = false := by decide)
    (he : starEach (e :: es) X.env = (false, eval e X.env) :: starEach es X.env := by rfl) (hpl : (backTo pos (starEach es X.env)).any (·.1) = false := by rfl) : PE3 X (.Call (.Name x p) (e :: es) [] pos) (eBlt r3 ta) := fun E tk => by
  obtain ⟨r, c1, c2⟩ := hc
  obtain ⟨t, p1, q⟩ := ha E tk
  refine ⟨_, pe_callTy c1 hg hm hv p1 hn hdb he hpl, fun σ H γ G Q3 Q hs hr h3 k => ?_⟩
  refine q σ H γ G _ _ hs hr h3 fun vs H1 ws G1 x1 r1 rv h3 => ?_
  exact c2 ws vs H1 G1 _ _ r1 rv h3 fun v H' w G' x => k v H' w G' (x1.trans x)
/-- a method of a built-in, by values -/
def MtR3 (X : Cx) (id : String) (r3 : W → List W → Gh → QV → Prop) : Prop := ∃ r : V → List V → Hp → VK → Prop, MtR X id r ∧ (∀ w v ws vs H G Q3 Q, Rel X.K H G → Rep X.K H w v → RepL X.K H ws vs → r3 w ws G Q3 →
  (∀ v H' w G', Ext X.K H H' → Rel X.K H' G' → Rep X.K H' w v → Q3 w G' → Q v H') → r v vs H Q)
theorem tyW_ok {K : Frag} {T : String} {w : W} {v : V} {H : Hp} {G : Gh} (r : Rel K H G) (rv : Rep K H w v) (h : tyW T w G) : tyV K T v H := by
  cases w with
  | str l => simp only [Rep] at rv; subst rv; exact h
  | ref a =>
    simp only [Rep] at rv; subst rv
    cases e : G a with
    | none => simp only [tyW, e] at h
    | some o =>
      cases o with
      | lst ws =>
        simp only [tyW, e] at h
        obtain ⟨xs, q, _⟩ := r.seq (.inl e)
        exact .inl ⟨h, xs, q⟩
      | rdl ws =>
        simp only [tyW, e] at h
        obtain ⟨xs, q, _⟩ := r.seq (.inr e)
        exact .inl ⟨h, xs, q⟩
      | dct ws =>
        simp only [tyW, e] at h
        obtain ⟨xs, q, _⟩ := r a _ e
        exact .inr (.inr (.inl ⟨h, .inl ⟨xs, q⟩⟩))
      | dtt ws =>
        simp only [tyW, e] at h
        obtain ⟨xs, q, _⟩ := r a _ e
        exact .inr (.inr (.inl ⟨h, .inr ⟨xs, q⟩⟩))
      | ins C ns ws => simp only [tyW, e] at h
      | exo C ns ws => simp only [tyW, e] at h
      | rdc ws => simp only [tyW, e] at h
      | rdt ws => simp only [tyW, e] at h
  | _ => exact h.elim
theorem pe3_bm {name : Str} {T id : String} {cpos : Pos} {to : TE} {r3 : W → List W → Gh → QV → Prop} (pa : PlainAttrs T) (slot : Slot T name id) (hty : typeOf (.builtin id) = pure (.type "method_descriptor")) (hm : MtR3 X id r3) (ho : PE3 X o to) (ha : PA3 X (e :: es) ta)
    (hbase : attributeBase o name X.env (eval o X.env) = eval o X.env := by rfl)
    (hfew : ((backTo cpos (starEach (e :: es) X.env)).all (fun x => !x.1) && (backToKw cpos (keywordEach [] X.env)).all (fun x => x.1.isSome) && decide ((e :: es).length + ([] : List Keyword).length + (if ([] : List Keyword).isEmpty then 0 else 1) < 30)) = true := by rfl)
    (hline : (apos.endLine == cpos.line) = true := by rfl) (hs : starEach (e :: es) X.env = (false, eval e X.env) :: starEach es X.env := by rfl) (hplain : (backTo cpos (starEach es X.env)).any (·.1) = false := by rfl) :
    PE3 X (.Call (.Attribute o name apos) (e :: es) [] cpos) (eBm T r3 to ta) := fun E tk => by
  obtain ⟨r, c1, c2⟩ := hm
  obtain ⟨t, p1, q1⟩ := ho E tk
  obtain ⟨u, p2, q2⟩ := ha E tk
  refine ⟨_, pe_bm pa slot hty c1 p1 p2 hbase hfew hline hs hplain, fun σ H γ G Q3 Q hs hr h3 k => ?_⟩
  refine q1 σ H γ G _ _ hs hr h3 fun v H1 w G1 x1 r1 rv h3 => ⟨tyW_ok r1 rv h3.1, ?_⟩
  refine q2 σ H1 γ G1 _ _ (hs.ext x1) r1 h3.2 fun vs H2 ws G2 x2 r2 rvs h3 => ?_
  exact c2 w v ws vs H2 G2 _ _ r2 (rv.ext x2) rvs h3 fun v3 H3 w3 G3 x3 => k v3 H3 w3 G3 ((x1.trans x2).trans x3)
theorem pe3_bm0 {name : Str} {T id : String} {cpos : Pos} {to : TE} {r3 : W → List W → Gh → QV → Prop} (pa : PlainAttrs T) (slot : Slot T name id) (hty : typeOf (.builtin id) = pure (.type "method_descriptor")) (hm : MtR3 X id r3) (ho : PE3 X o to)
    (hbase : attributeBase o name X.env (eval o X.env) = eval o X.env := by rfl) (hline : (apos.endLine == cpos.line) = true := by rfl) :
    PE3 X (.Call (.Attribute o name apos) [] [] cpos) (eBm T r3 to aNil) := fun E tk => by
  obtain ⟨r, c1, c2⟩ := hm
  obtain ⟨t, p1, q1⟩ := ho E tk
  refine ⟨_, pe_bm0 pa slot hty c1 p1 hbase hline, fun σ H γ G Q3 Q hs hr h3 k => ?_⟩
  refine q1 σ H γ G _ _ hs hr h3 fun v H1 w G1 x1 r1 rv h3 => ⟨tyW_ok r1 rv h3.1, ?_⟩
  exact c2 w v [] [] H1 G1 _ _ r1 rv .nil h3.2 fun v3 H3 w3 G3 x3 => k v3 H3 w3 G3 (x1.trans x3)

/-! ### displays, subscripts, slices -/
theorem rep_new_tup {K : Frag} {H : Hp} {p : Addr} {ws : List W} {xs : List V} (hp : H p = none) (r : RepL K H ws xs) : Rep K (upd H p (.tup xs)) (.tup ws) (.ref p) := by
  simp only [Rep]
  exact ⟨p, xs, rfl, upd_same, r.ext (.new hp)⟩
theorem pe3_tup {x1} (h : PA3 X es ta) : PE3 X (.Tuple es x1 pos) (eTup ta) := fun E tk => by
  obtain ⟨t, p1, q⟩ := h E tk
  refine ⟨_, pe_tup p1, fun σ H γ G Q3 Q hs hr h3 k => ?_⟩
  refine q σ H γ G _ _ hs hr h3 fun vs H1 ws G1 x1 r1 rv h3 => ⟨by rw [← rv.length]; exact h3.1, fun p hp => ?_⟩
  exact k _ _ _ G1 (x1.trans (.new hp)) (r1.hid hp) (rep_new_tup hp rv) h3.2
theorem pe3_lst (h : PA3 X es ta) : PE3 X (.List es pos) (eLst ta) := fun E tk => by
  obtain ⟨t, p1, q⟩ := h E tk
  refine ⟨_, pe_lst p1, fun σ H γ G Q3 Q hs hr h3 k => ?_⟩
  refine q σ H γ G _ _ hs hr h3 fun vs H1 ws G1 x1 r1 rv h3 => ⟨by rw [← rv.length]; exact h3.1, fun p hp => ?_⟩
  exact k _ _ _ _ (x1.trans (.new hp)) (r1.new (o := .lst ws) hp ⟨_, upd_same, rv.ext (.new hp)⟩) rref (h3.2 p (r1.free hp))
def IxR3 (X : Cx) (r3 : R2) : Prop := ∃ r : L2.R2, IxR X r ∧ ∀ x y v u H G Q3 Q, Rel X.K H G → Rep X.K H x v → Rep X.K H y u → r3 x y G Q3 →
  (∀ v H' w G', Ext X.K H H' → Rel X.K H' G' → Rep X.K H' w v → Q3 w G' → Q v H') → r v u H Q
theorem pe3_ix {a b : Expr} {ta tb : TE} {r3 : R2} (hr : IxR3 X r3) (ha : PE3 X a ta) (hb : PE3 X b tb) (hs : PlainIx b) : PE3 X (.Subscript a b pos) (eOp r3 ta tb) := fun E tk => by
  obtain ⟨r, h1, h2⟩ := hr
  obtain ⟨t, p1, q1⟩ := ha E tk
  obtain ⟨u, p2, q2⟩ := hb E tk
  refine ⟨_, pe_ix h1 p1 p2 hs, fun σ H γ G Q3 Q hs hr h3 k => ?_⟩
  refine q1 σ H γ G _ _ hs hr h3 fun v H1 w G1 x1 r1 rv h3 => ?_
  refine q2 σ H1 γ G1 _ _ (hs.ext x1) r1 h3 fun v2 H2 w2 G2 x2 r2 rv2 h3 => ?_
  exact h2 _ _ _ _ _ _ _ _ r2 (rv.ext x2) rv2 h3 fun v3 H3 w3 G3 x3 => k v3 H3 w3 G3 ((x1.trans x2).trans x3)
def SimO (K : Frag) (Z0 : Hp) (t : L2.TO) (t3 : Fr → Gh → (Option Int → Gh → Prop) → Prop) : Prop := ∀ (σ : St) (H : Hp) (γ : Fr) (G : Gh) (Q3 : Option Int → Gh → Prop) (Q : Option Int → Hp → Prop), RepS K Z0 H γ σ → Rel K H G → t3 γ G Q3 →
  (∀ i H' G', Ext K H H' → Rel K H' G' → Q3 i G' → Q i H') → t σ H Q
def PO3 (X : Cx) (e : Option Expr) (t3 : TO) : Prop := ∀ E : EX, TakesE X E → ∃ t, PO X e t ∧ SimO X.K E.h0 t fun γ G Q => t3 γ G (E γ) Q
theorem po3_none : PO3 X none oNo := fun E tk => ⟨_, po_none, fun σ H γ G Q3 Q hs hr h3 k => k none H G .refl hr h3⟩
theorem po3_some (h : PE3 X e te) : PO3 X (some e) (oPart te) := fun E tk => by
  obtain ⟨t, p, q⟩ := h E tk
  refine ⟨_, po_some p, fun σ H γ G Q3 Q hs hr h3 k => ?_⟩
  refine q σ H γ G _ _ hs hr h3 fun v H1 w G1 x1 r1 rv h3 => ?_
  cases w with
  | int i => exact ⟨i, rep_int1 rv, k _ H1 G1 x1 r1 h3⟩
  | _ => exact h3.elim
theorem sIx_clip (n : Nat) (i : Int) (d : Nat) : HT.sIx n d (some i) = clip n i := by
  show (if i < 0 then (i + (n : Int)).toNat else min i.toNat n) = if 0 ≤ i then min i.toNat n else n - (-i).toNat
  split <;> split <;> omega
theorem lo_eq (n : Nat) (o : Option Int) : HT.sIx n 0 o = lo_ n o := by
  cases o with
  | none => rfl
  | some i => exact sIx_clip n i 0
theorem hi_eq (n : Nat) (o : Option Int) : HT.sIx n n o = hi_ n o := by
  cases o with
  | none => rfl
  | some i => exact sIx_clip n i n
theorem cut_eq (xs : List V) (lo hi : Option Int) : cutV xs lo hi = cut xs lo hi := by unfold cutV cut; rw [lo_eq, hi_eq]
theorem RepL.cut {K : Frag} {H : Hp} {ws : List W} {xs : List V} (r : RepL K H ws xs) (lo hi : Option Int) : RepL K H (L3.cut ws lo hi) (L3.cut xs lo hi) := by
  unfold L3.cut
  rw [r.length]
  exact (r.drop _).take _
theorem cutS_eq (l : List Nat) (lo hi : Option Int) : cutS (S l) lo hi = S (cut l lo hi) := by
  unfold cutS cut
  rw [lo_eq, hi_eq, S_length, S_toList]
  rfl
end
end L3

end
section
/-! L3SndD: the operations. -/
namespace L3
open PySem PySem.Spec PyProof.Rows L2
theorem sz_eq : sizeLine = SZ := by decide
theorem rep_str1 {K : Frag} {H : Hp} {l : List Nat} {v : V} (h : Rep K H (.str l) v) : v = .str (S l) := by simp only [Rep] at h; exact h
theorem rep_ref1 {K : Frag} {H : Hp} {p : Addr} {v : V} (h : Rep K H (.ref p) v) : v = .ref p := by simpa only [Rep] using h
theorem rep_non1 {K : Frag} {H : Hp} {v : V} (h : Rep K H .non v) : v = .non := by simpa only [Rep] using h
theorem rep_ty1 {K : Frag} {H : Hp} {n : String} {v : V} (h : Rep K H (.ty n) v) : v = .ty n := by simpa only [Rep] using h
section
variable {X : Cx}
/-- ints in, an int out -/
theorem opI3 {f : Value → Value → Sem Value} {C : Int → Int → Prop} {g : Int → Int → V} {g3 : Int → Int → W} (ho : OpR X f (rI C g)) (hg : ∀ K H i j, Rep K H (g3 i j) (g i j)) :
    OpR3 X f (fun x y G Q => match x with | .int i => (match y with | .int j => C i j ∧ Q (g3 i j) G | _ => False) | _ => False) := by
  refine ⟨_, ho, fun x y v u H G Q3 Q r rv ru h k => ?_⟩
  cases x with
  | int i =>
    cases y with
    | int j => exact ⟨i, j, rep_int1 rv, rep_int1 ru, h.1, k _ H _ G .refl r (hg _ _ i j) h.2⟩
    | _ => exact h.elim
  | _ => exact h.elim
theorem opI03 {f : Value → Value → Sem Value} {g : Int → Int → V} {g3 : Int → Int → W} (ho : OpR X f (rI0 g)) (hg : ∀ K H i j, Rep K H (g3 i j) (g i j)) :
    OpR3 X f (fun x y G Q => match x with | .int i => (match y with | .int j => Q (g3 i j) G | _ => False) | _ => False) := by
  refine ⟨_, ho, fun x y v u H G Q3 Q r rv ru h k => ?_⟩
  cases x with
  | int i =>
    cases y with
    | int j => exact ⟨i, j, rep_int1 rv, rep_int1 ru, k _ H _ G .refl r (hg _ _ i j) h⟩
    | _ => exact h.elim
  | _ => exact h.elim
theorem o_sub : OpR3 X (binaryOp .Sub) rSub := opI03 op_sub fun _ _ _ _ => rint
theorem o_isub : OpR3 X (inplaceOp .Sub) rSub := opI03 iop_sub fun _ _ _ _ => rint
theorem o_mod : OpR3 X (binaryOp .Mod) rMod := opI3 op_mod fun _ _ _ _ => rint
theorem o_imod : OpR3 X (inplaceOp .Mod) rMod := opI3 iop_mod fun _ _ _ _ => rint
theorem fold_rep (l : List Nat) : ∀ (k : Nat) (acc : Array Nat), (List.replicate k l.toArray).foldl (· ++ ·) acc = acc ++ ((List.replicate k l).flatten).toArray
  | 0, acc => by simp
  | k + 1, acc => by
    rw [List.replicate_succ, List.foldl_cons, fold_rep l k, List.replicate_succ, List.flatten_cons]
    simp
theorem op_mul_str : OpR X (binaryOp .Mult) (fun x y H Q => ∃ (l : List Nat) (k : Nat), x = .str (S l) ∧ y = .int (k : Int) ∧ 1 ≤ k ∧ k < 1000000 ∧ l.length * k ≤ 16777216 ∧ Q (.str (S (List.replicate k l).flatten)) H) := by
  intro pins s σ H x y v u Q I rx ry h
  obtain ⟨l, k, rfl, rfl, h1, hk, hz, q⟩ := h
  obtain ⟨t, rfl⟩ := rx
  obtain ⟨t', rfl⟩ := ry
  have hl : (S l).length = l.length := S_length l
  refine PySem.P.mul_str ?_ (fun _ _ => ?_) (fun _ _ => ?_) ?_
  · rw [decide_eq_false (by omega), decide_eq_false (by omega)]; rfl
  · rw [hl]
    intro z
    have h3 : ((2 : Int) ^ 63 - 1) / (k : Int) < l.length := z
    have h4 := Int.lt_mul_of_ediv_lt (show (0 : Int) < k by omega) h3
    have h5 : ((l.length * k : Nat) : Int) ≤ 16777216 := by omega
    rw [Int.natCast_mul] at h5
    omega
  · rw [hl, Int.toNat_natCast]
    show decide (l.length * k > sizeLine) = false
    have hs : sizeLine = 16777216 := rfl
    exact decide_eq_false (by omega)
  · rw [if_neg (by omega)]
    split
    · rename_i hc
      have e : (List.replicate k l).flatten = l := by
        rw [Bool.or_eq_true] at hc
        rcases hc with hc | hc
        · have : k = 1 := by have := eq_of_beq hc; omega
          subst this; simp
        · have hn : l.length = 0 := by rw [← hl]; exact eq_of_beq hc
          have : l = [] := List.eq_nil_of_length_eq_zero hn
          subst this; simp
      rw [e] at q
      exact ⟨.str (S l), H, I, ⟨t, rfl⟩, q⟩
    · have e : (⟨(List.replicate ((k : Int).toNat) (S l).cps).foldl (· ++ ·) #[]⟩ : Str) = S (List.replicate k l).flatten := by
        rw [Int.toNat_natCast]
        show (⟨(List.replicate k l.toArray).foldl (· ++ ·) #[]⟩ : Str) = _
        rw [fold_rep]
        simp [S]
      rw [e]
      refine ⟨?_, ⟨.str _, H, I.tok _, ⟨_, rfl⟩, q⟩⟩
      have e9 : (List.replicate k l).flatten.length = l.length * k := by simp [List.length_flatten, Nat.mul_comm]
      rw [S_length, e9]
      have hs : sizeLine = 16777216 := rfl
      omega
theorem o_mul : OpR3 X (binaryOp .Mult) rMul := by
  obtain ⟨r, ho, e⟩ : ∃ r, OpR X (binaryOp .Mult) r ∧ r = rI CMul fun i j => .int (i * j) := ⟨_, op_mul, rfl⟩
  subst e
  refine ⟨_, ho.or op_mul_str, fun x y v u H G Q3 Q r rv ru h k => ?_⟩
  cases x with
  | int i =>
    cases y with
    | int j => exact .inl ⟨i, j, rep_int1 rv, rep_int1 ru, h.1, k _ H _ G .refl r rint h.2⟩
    | _ => exact h.elim
  | str a =>
    cases y with
    | int j =>
      obtain ⟨h1, h2, h3, h4⟩ := h
      obtain ⟨n, rfl⟩ := Int.eq_ofNat_of_zero_le (show 0 ≤ j by omega)
      exact .inr ⟨a, n, rep_str1 rv, rep_int1 ru, by omega, by omega, by simpa using h3, k _ H _ G .refl r rstr (by simpa using h4)⟩
    | _ => exact h.elim
  | _ => exact h.elim
theorem div_of {f : Value → Value → Sem Value} (ho : OpR X f (rI CDiv fun i j => .int (i / j))) : OpR3 X f rDiv := by
  refine ⟨_, ho, fun x y v u H G Q3 Q r rv ru h k => ?_⟩
  cases x with
  | int i =>
    cases y with
    | int j => exact ⟨i, j, rep_int1 rv, rep_int1 ru, ⟨h.1, h.2.1⟩, k _ H _ G .refl r rint h.2.2⟩
    | _ => exact h.elim
  | _ => exact h.elim
theorem o_div : OpR3 X (binaryOp .FloorDiv) rDiv := div_of op_fdiv
theorem o_idiv : OpR3 X (inplaceOp .FloorDiv) rDiv := div_of iop_fdiv
theorem u_neg : UnR3 X (unaryOp .USub) rNeg := by
  refine ⟨_, un_neg, fun x v H G Q3 Q r rv h k => ?_⟩
  cases x with
  | int i => exact ⟨i, rep_int1 rv, k _ H _ G .refl r rint h⟩
  | _ => exact h.elim
theorem o_gt : OpR3 X (compareOp .Gt) rGt := opI03 op_gt fun _ _ _ _ => rbl
theorem o_ge : OpR3 X (compareOp .GtE) rGe := opI03 op_ge fun _ _ _ _ => rbl
theorem o_lt : OpR3 X (compareOp .Lt) rLt := by
  refine ⟨_, op_lt.or op_lt_str, fun x y v u H G Q3 Q r rv ru h k => ?_⟩
  cases x with
  | int i =>
    cases y with
    | int j => exact .inl ⟨i, j, rep_int1 rv, rep_int1 ru, k _ H _ G .refl r rbl h⟩
    | _ => exact h.elim
  | str a =>
    cases y with
    | str b => exact .inr ⟨S a, S b, rep_str1 rv, rep_str1 ru, k _ H _ G .refl r rbl (by simp only [S_toList]; exact h)⟩
    | _ => exact h.elim
  | _ => exact h.elim
theorem o_le : OpR3 X (compareOp .LtE) rLe := by
  refine ⟨_, op_le.or op_le_str, fun x y v u H G Q3 Q r rv ru h k => ?_⟩
  cases x with
  | int i =>
    cases y with
    | int j => exact .inl ⟨i, j, rep_int1 rv, rep_int1 ru, k _ H _ G .refl r rbl h⟩
    | _ => exact h.elim
  | str a =>
    cases y with
    | str b => exact .inr ⟨S a, S b, rep_str1 rv, rep_str1 ru, k _ H _ G .refl r rbl (by simp only [S_toList]; exact h)⟩
    | _ => exact h.elim
  | _ => exact h.elim
/-! ### + -/
theorem b2_eq (b : Bool) : b2i b = b2n b := by cases b <;> rfl
theorem lst_of {K : Frag} {H : Hp} {G : Gh} {a : Addr} {ws : List W} (r : Rel K H G) (e : G a = some (.lst ws)) : ∃ xs, H a = some (.lst xs) ∧ RepL K H ws xs := r.lst e
theorem o_add : OpR3 X (binaryOp .Add) rAdd := by
  refine ⟨_, op_add.or (op_add_ib.or (op_add_str.or (op_catA.or op_cat))), fun x y v u H G Q3 Q r rv ru h k => ?_⟩
  cases x with
  | int i =>
    cases y with
    | int j => exact .inl ⟨i, j, rep_int1 rv, rep_int1 ru, k _ H _ G .refl r rint h⟩
    | bl b => exact .inr (.inl ⟨i, b, rep_int1 rv, rep_bl ru, by rw [b2_eq]; exact k _ H _ G .refl r rint h⟩)
    | _ => exact h.elim
  | str a =>
    cases y with
    | str b =>
      refine .inr (.inr (.inl ⟨S a, S b, rep_str1 rv, rep_str1 ru, by rw [S_length, S_length, sz_eq]; exact h.1, ?_⟩))
      rw [S_append]
      exact k _ H _ G .refl r rstr h.2
    | _ => exact h.elim
  | tup a =>
    cases y with
    | tup b =>
      obtain ⟨p, xs, rfl, s1, s2⟩ := rep_tup rv
      obtain ⟨q, ys, rfl, s3, s4⟩ := rep_tup ru
      refine .inr (.inr (.inr (.inl ⟨p, q, xs, ys, rfl, rfl, s1, s3, by rw [← s2.length, ← s4.length, sz_eq]; exact h.1, fun e => ?_, fun _ e => ?_, fun _ _ t ht => ?_⟩)))
      · have : a = [] := by cases a with | nil => rfl | cons w ws => have z := s2.length; rw [e] at z; cases z
        subst this
        exact k _ H _ G .refl r ru (by simpa using h.2)
      · have : b = [] := by cases b with | nil => rfl | cons w ws => have z := s4.length; rw [e] at z; cases z
        subst this
        exact k _ H _ G .refl r rv (by simpa using h.2)
      · exact k _ _ _ G (.new ht) (r.hid ht) (rep_new_tup ht (s2.append s4)) h.2
    | _ => exact h.elim
  | ref a =>
    cases y with
    | ref b =>
      cases e1 : G a with
      | none => simp only [rAdd, e1] at h
      | some o =>
        cases o with
        | lst xs =>
          cases e2 : G b with
          | none => simp only [rAdd, e1, e2] at h
          | some o' =>
            cases o' with
            | lst ys =>
              simp only [rAdd, e1, e2] at h
              obtain ⟨vs, v1, v2⟩ := r.lst e1
              obtain ⟨us, u1, u2⟩ := r.lst e2
              refine .inr (.inr (.inr (.inr ⟨a, b, vs, us, rep_ref1 rv, rep_ref1 ru, v1, u1, by rw [← v2.length, ← u2.length, sz_eq]; exact h.1, fun p hp => ?_⟩)))
              exact k _ _ _ _ (.new hp) (r.new (o := .lst (xs ++ ys)) hp ⟨_, upd_same, (v2.append u2).ext (.new hp)⟩) rref (h.2 p (r.free hp))
            | _ => simp only [rAdd, e1, e2] at h
        | _ => simp only [rAdd, e1] at h
    | _ => exact h.elim
  | _ => exact h.elim
theorem o_iadd : OpR3 X (inplaceOp .Add) rIadd := by
  refine ⟨_, iop_add.or iop_add_str, fun x y v u H G Q3 Q r rv ru h k => ?_⟩
  cases x with
  | int i =>
    cases y with
    | int j => exact .inl ⟨i, j, rep_int1 rv, rep_int1 ru, k _ H _ G .refl r rint h⟩
    | _ => exact h.elim
  | str a =>
    cases y with
    | str b =>
      refine .inr ⟨S a, S b, rep_str1 rv, rep_str1 ru, by rw [S_length, S_length, sz_eq]; exact h.1, ?_⟩
      rw [S_append]
      exact k _ H _ G .refl r rstr h.2
    | _ => exact h.elim
  | _ => exact h.elim
/-! ### == -/
mutual
def pd : W → PyData
  | .non => .none
  | .bl b => .bool b
  | .int i => .int i
  | .str l => .str (S l)
  | .tup ws => .tuple (pdL ws)
  | .ref _ => .none
  | .ty _ => .none
  | .kl _ => .none
  | .ktp _ => .none
def pdL : List W → List PyData
  | [] => []
  | w :: ws => pd w :: pdL ws
end
theorem strOk_S {l : List Nat} (h : (l.all fun c => decide (c < 1114112)) = true) : PyData.strOk (S l) = true := by
  unfold PyData.strOk S
  simpa using h
theorem okD_pd : ∀ (n : Nat) (w : W), okD n w = true → (pd w).canLay0 = true ∧ (pd w).depth ≤ n := by
  intro n
  induction n with
  | zero =>
    intro w h
    cases w with
    | non => exact ⟨rfl, Nat.le_refl _⟩
    | bl b => exact ⟨rfl, Nat.le_refl _⟩
    | int i => exact ⟨rfl, Nat.le_refl _⟩
    | str l => exact ⟨by unfold pd PyData.canLay0; exact strOk_S h, by unfold pd PyData.depth; exact Nat.le_refl _⟩
    | _ => cases h
  | succ n ih =>
    intro w h
    cases w with
    | non => exact ⟨rfl, Nat.zero_le _⟩
    | bl b => exact ⟨rfl, Nat.zero_le _⟩
    | int i => exact ⟨rfl, Nat.zero_le _⟩
    | str l => exact ⟨by unfold pd PyData.canLay0; exact strOk_S h, by unfold pd PyData.depth; exact Nat.zero_le _⟩
    | tup ws =>
      have h' : ws.all (okD n) = true := h
      have key : ∀ ws : List W, ws.all (okD n) = true → PyData.canLayAll0 (pdL ws) = true ∧ PyData.depthAll (pdL ws) ≤ n := by
        intro ws
        induction ws with
        | nil => intro _; exact ⟨by unfold pdL PyData.canLayAll0; rfl, by unfold pdL PyData.depthAll; exact Nat.zero_le _⟩
        | cons w ws ihw =>
          intro q
          rw [List.all_cons, Bool.and_eq_true] at q
          obtain ⟨a1, a2⟩ := ih w q.1
          obtain ⟨b1, b2⟩ := ihw q.2
          refine ⟨by unfold pdL PyData.canLayAll0; rw [a1, b1]; rfl, by unfold pdL PyData.depthAll; exact Nat.max_le.mpr ⟨a2, b2⟩⟩
      obtain ⟨c1, c2⟩ := key ws h'
      exact ⟨by unfold pd PyData.canLay0; exact c1, by unfold pd PyData.depth; omega⟩
    | _ => cases h
theorem shaped_pd {w : W} (h : okD DP w = true) : SeqAt.shaped (pd w) = true := by
  obtain ⟨a, b⟩ := okD_pd _ w h
  unfold SeqAt.shaped
  have : (pd w).depth ≤ 64 := Nat.le_trans b (by decide)
  rw [a, Bool.true_and]
  exact decide_eq_true this
theorem eqv_bl (a b : Bool) : PyData.eqv (.bool a) (.bool b) = (a == b) := by simp only [PyData.eqv]
theorem okD_tupE {n : Nat} {ws : List W} (h : okD n (.tup ws) = true) : ∃ k, ws.all (okD k) = true := by
  cases n with
  | zero => cases h
  | succ k => exact ⟨k, h⟩
theorem okD_ref {n : Nat} {a : Nat} (h : okD n (.ref a) = true) : False := by cases n <;> cases h
theorem okD_ty {n : Nat} {a : String} (h : okD n (.ty a) = true) : False := by cases n <;> cases h
theorem okD_kl {n : Nat} {a : List W} (h : okD n (.kl a) = true) : False := by cases n <;> cases h
theorem okD_ktp {n : Nat} {a : List W} (h : okD n (.ktp a) = true) : False := by cases n <;> cases h
theorem dec_beq {a b : Int} : (a == b) = decide (a = b) := by rw [Bool.eq_iff_iff]; simp
theorem dec_S {a b : List Nat} : (S a == S b) = decide (a = b) := by rw [Bool.eq_iff_iff]; simp [S_inj_iff]
theorem b2_if (b : Bool) : (if b = true then (1 : Int) else 0) = b2n b := by cases b <;> rfl
mutual
theorem eqv_weq : ∀ (a b : W) (n m : Nat), okD n a = true → okD m b = true → PyData.eqv (pd a) (pd b) = weq a b
  | .non, b, n, m, h, h' => by cases b <;> first | (exact (okD_ref h').elim) | (exact (okD_ty h').elim) | (exact (okD_kl h').elim) | (exact (okD_ktp h').elim) | simp only [pd, PyData.eqv, weq]
  | .bl x, b, n, m, h, h' => by cases b <;> first | (exact (okD_ref h').elim) | (exact (okD_ty h').elim) | (exact (okD_kl h').elim) | (exact (okD_ktp h').elim) | simp only [pd, PyData.eqv, weq, dec_beq, b2_if]
  | .int i, b, n, m, h, h' => by cases b <;> first | (exact (okD_ref h').elim) | (exact (okD_ty h').elim) | (exact (okD_kl h').elim) | (exact (okD_ktp h').elim) | simp only [pd, PyData.eqv, weq, dec_beq, b2_if]
  | .str x, b, n, m, h, h' => by cases b <;> first | (exact (okD_ref h').elim) | (exact (okD_ty h').elim) | (exact (okD_kl h').elim) | (exact (okD_ktp h').elim) | simp only [pd, PyData.eqv, weq, dec_S]
  | .tup ws, b, n, m, h, h' => by
    cases b with
    | tup zs =>
      obtain ⟨k, e⟩ := okD_tupE h
      obtain ⟨k', e'⟩ := okD_tupE h'
      simp only [pd, PyData.eqv, weq]
      exact eqvL_weq ws zs k k' e e'
    | ref a => exact (okD_ref h').elim
    | ty a => exact (okD_ty h').elim
    | kl a => exact (okD_kl h').elim
    | ktp a => exact (okD_ktp h').elim
    | _ => simp only [pd, PyData.eqv, weq]
  | .ref a, b, n, m, h, h' => (okD_ref h).elim
  | .ty a, b, n, m, h, h' => (okD_ty h).elim
  | .kl a, b, n, m, h, h' => (okD_kl h).elim
  | .ktp a, b, n, m, h, h' => (okD_ktp h).elim
theorem eqvL_weq : ∀ (as bs : List W) (n m : Nat), as.all (okD n) = true → bs.all (okD m) = true → PyData.eqvAll (pdL as) (pdL bs) = weqL as bs
  | [], bs, n, m, h, h' => by cases bs <;> simp [pdL, PyData.eqvAll, weqL]
  | a :: as, bs, n, m, h, h' => by
    cases bs with
    | nil => simp only [pdL, PyData.eqvAll, weqL]
    | cons b bs =>
      rw [List.all_cons, Bool.and_eq_true] at h h'
      simp only [pdL, PyData.eqvAll, weqL]
      rw [eqv_weq a b n m h.1 h'.1, eqvL_weq as bs n m h.2 h'.2]
end
mutual
theorem dp_rep {K : Frag} {H : Hp} : ∀ (w : W) (v : V) (n : Nat), okD n w = true → Rep K H w v → Dp K H v (pd w)
  | .non, v, n, h, r => by rw [rep_non1 r]; simp only [pd]; constructor
  | .bl b, v, n, h, r => by rw [rep_bl r]; simp only [pd]; constructor
  | .int i, v, n, h, r => by rw [rep_int1 r]; simp only [pd]; constructor
  | .str l, v, n, h, r => by rw [rep_str1 r]; simp only [pd]; constructor
  | .tup ws, v, n, h, r => by
    obtain ⟨a, xs, rfl, s1, s2⟩ := rep_tup r
    obtain ⟨k, e⟩ := okD_tupE h
    simp only [pd]
    exact .tup s1 (dp_repL ws xs k e s2)
  | .ref a, v, n, h, r => (okD_ref h).elim
  | .ty a, v, n, h, r => (okD_ty h).elim
  | .kl a, v, n, h, r => (okD_kl h).elim
  | .ktp a, v, n, h, r => (okD_ktp h).elim
theorem dp_repL {K : Frag} {H : Hp} : ∀ (ws : List W) (vs : List V) (n : Nat), ws.all (okD n) = true → RepL K H ws vs → DpAll K H vs (pdL ws)
  | [], vs, n, h, r => by simp only [RepL] at r; subst r; simp only [pdL]; constructor
  | w :: ws, vs, n, h, r => by
    rw [List.all_cons, Bool.and_eq_true] at h
    simp only [RepL] at r
    obtain ⟨v, r', rfl, a, b⟩ := r
    simp only [pdL]
    exact .cons (dp_rep w v n h.1 a) (dp_repL ws r' n h.2 b)
end
theorem shaped_list {ws : List W} (h : ws.all (okD DP) = true) : SeqAt.shaped (.list (pdL ws)) = true := by
  have h' : okD (DP + 1) (.tup ws) = true := h
  obtain ⟨a, b⟩ := okD_pd _ _ h'
  unfold pd PyData.canLay0 at a
  unfold pd PyData.depth at b
  unfold SeqAt.shaped
  have e1 : (PyData.list (pdL ws)).canLay0 = true := by unfold PyData.canLay0; exact a
  have e2 : (PyData.list (pdL ws)).depth ≤ 64 := by
    unfold PyData.depth
    have : DP + 1 ≤ 64 := by decide
    omega
  rw [e1, Bool.true_and]
  exact decide_eq_true e2
theorem dec_str2 {a b : List Nat} : decide (V.str (S a) = V.str (S b)) = decide (a = b) := by
  rw [Bool.eq_iff_iff, decide_eq_true_iff, decide_eq_true_iff]
  exact ⟨fun e => S_inj (V.str.inj e), fun e => by rw [e]⟩
theorem dec_int2 {a b : Int} : decide (V.int a = V.int b) = decide (a = b) := by
  rw [Bool.eq_iff_iff, decide_eq_true_iff, decide_eq_true_iff]
  exact ⟨fun e => V.int.inj e, fun e => by rw [e]⟩
/-- == and its like, by what is answered -/
theorem eq_sim {r rD : L2.R2} {neg : Bool → Bool} (hS : ∀ x y H Q, scal x y = true → Q (.bl (neg (decide (x = y)))) H → r x y H Q)
    (hD : ∀ x y d e H Q, Dp X.K H x d → Dp X.K H y e → SeqAt.shaped d = true → SeqAt.shaped e = true → Q (.bl (neg (PyData.eqv d e))) H → rD x y H Q) :
    ∀ x y v u H G (Q3 : QV) (Q : VK), Rel X.K H G → Rep X.K H x v → Rep X.K H y u → eqA x y G (fun k => Q3 (.bl (neg k)) G) →
      (∀ v H' w G', Ext X.K H H' → Rel X.K H' G' → Rep X.K H' w v → Q3 w G' → Q v H') → r v u H Q ∨ rD v u H Q := by
  intro x y v u H G Q3 Q r rv ru h k
  have data : ∀ {x y : W} {v u : V}, Rep X.K H x v → Rep X.K H y u → okD DP x = true → okD DP y = true → Q3 (.bl (neg (weq x y))) G → rD v u H Q := fun {x y v u} rv ru a b q => by
    refine hD v u (pd x) (pd y) H Q (dp_rep x v _ a rv) (dp_rep y u _ b ru) (shaped_pd a) (shaped_pd b) ?_
    rw [eqv_weq x y _ _ a b]
    exact k _ H _ G .refl r rbl q
  cases x with
  | ref a =>
    cases y with
    | ref b =>
      cases e1 : G a with
      | none => simp only [eqA, e1] at h
      | some o =>
        cases o with
        | lst xs =>
          cases e2 : G b with
          | none => simp only [eqA, e1, e2] at h
          | some o' =>
            cases o' with
            | lst ys =>
              simp only [eqA, e1, e2] at h
              obtain ⟨h1, h2, h3⟩ := h
              obtain ⟨vs, v1, v2⟩ := r.lst e1
              obtain ⟨us, u1, u2⟩ := r.lst e2
              rw [rep_ref1 rv, rep_ref1 ru]
              refine .inr (hD _ _ (.list (pdL xs)) (.list (pdL ys)) H Q (.lst (.inl (.inl v1)) (dp_repL xs vs _ h1 v2)) (.lst (.inl (.inl u1)) (dp_repL ys us _ h2 u2)) (shaped_list h1) (shaped_list h2) ?_)
              have e : PyData.eqv (.list (pdL xs)) (.list (pdL ys)) = weqL xs ys := by
                simp only [PyData.eqv]
                exact eqvL_weq xs ys _ _ h1 h2
              rw [e]
              exact k _ H _ G .refl r rbl h3
            | _ => simp only [eqA, e1, e2] at h
        | _ => simp only [eqA, e1] at h
    | _ => exact h.elim
  | ty a => exact h.elim
  | int i =>
    cases y with
    | int j =>
      rw [rep_int1 rv, rep_int1 ru]
      exact .inl (hS _ _ H Q rfl (by rw [dec_int2]; exact k _ H _ G .refl r rbl h))
    | ref b => exact h.elim
    | ty b => exact h.elim
    | _ => exact .inr (data rv ru rfl h.1 h.2)
  | str l =>
    cases y with
    | str m =>
      rw [rep_str1 rv, rep_str1 ru]
      exact .inl (hS _ _ H Q rfl (by rw [dec_str2]; exact k _ H _ G .refl r rbl h))
    | ref b => exact h.elim
    | ty b => exact h.elim
    | _ => exact .inr (data rv ru h.1 h.2.1 h.2.2)
  | _ =>
    cases y with
    | ref b => exact h.elim
    | ty b => exact h.elim
    | _ => exact .inr (data rv ru h.1 h.2.1 h.2.2)
theorem o_eq (hu : X.A.units + 64 < cLine) : OpR3 X (compareOp .Eq) rEq :=
  ⟨_, op_eq.or (op_eqD hu), eq_sim (neg := fun k => k) (fun x y H Q a q => ⟨a, q⟩) fun x y d e H Q a b c z q => ⟨d, e, a, b, c, z, q⟩⟩
theorem o_ne (hu : X.A.units + 64 < cLine) : OpR3 X (compareOp .NotEq) rNe :=
  ⟨_, op_ne.or (op_neD hu), eq_sim (neg := fun k => !k) (fun x y H Q a q => ⟨a, q⟩) fun x y d e H Q a b c z q => ⟨d, e, a, b, c, z, q⟩⟩
/-! ### is -/
theorem isN_of {K : Frag} {H : Hp} {w : W} {v : V} (r : Rep K H w v) : decide (v = .non) = isN w := by
  cases w with
  | non => rw [rep_non1 r]; rfl
  | bl b => rw [rep_bl r]; exact decide_eq_false (fun z => nomatch z)
  | int b => rw [rep_int1 r]; exact decide_eq_false (fun z => nomatch z)
  | str b => rw [rep_str1 r]; exact decide_eq_false (fun z => nomatch z)
  | ref b => rw [rep_ref1 r]; exact decide_eq_false (fun z => nomatch z)
  | ty b => rw [rep_ty1 r]; exact decide_eq_false (fun z => nomatch z)
  | tup ws =>
    obtain ⟨a, xs, rfl, _, _⟩ := rep_tup r
    exact decide_eq_false (fun z => nomatch z)
  | kl ws =>
    simp only [Rep] at r
    obtain ⟨a, xs, rfl, _, _⟩ := r
    exact decide_eq_false (fun z => nomatch z)
  | ktp ws =>
    obtain ⟨a, xs, rfl, _, _⟩ := rep_ktp r
    exact decide_eq_false (fun z => nomatch z)
theorem o_is : OpR3 X (compareOp .Is) rIs := by
  refine ⟨_, op_isN, fun x y v u H G Q3 Q r rv ru h k => ?_⟩
  cases y with
  | non => exact ⟨rep_non1 ru, by rw [isN_of rv]; exact k _ H _ G .refl r rbl h⟩
  | _ => exact h.elim
theorem o_isnot : OpR3 X (compareOp .IsNot) rIsNot := by
  refine ⟨_, op_notN, fun x y v u H G Q3 Q r rv ru h k => ?_⟩
  cases y with
  | non => exact ⟨rep_non1 ru, by rw [isN_of rv]; exact k _ H _ G .refl r rbl h⟩
  | _ => exact h.elim
/-! ### in -/
theorem eqV_weq {K : Frag} {H : Hp} {a b : W} {v u : V} (ra : Rep K H a v) (rb : Rep K H b u) (fa : flatW a = true) (fb : flatW b = true) : eqV v u = weq a b := by
  cases a with
  | non =>
    rw [rep_non1 ra]
    cases b with
    | non => rw [rep_non1 rb]; rfl
    | bl b => rw [rep_bl rb]; rfl
    | int b => rw [rep_int1 rb]; rfl
    | str b => rw [rep_str1 rb]; rfl
    | _ => cases fb
  | bl a =>
    rw [rep_bl ra]
    cases b with
    | non => rw [rep_non1 rb]; rfl
    | bl b => rw [rep_bl rb]; rfl
    | int b => rw [rep_int1 rb]; simp only [eqV, weq, dec_beq, b2_if]
    | str b => rw [rep_str1 rb]; rfl
    | _ => cases fb
  | int a =>
    rw [rep_int1 ra]
    cases b with
    | non => rw [rep_non1 rb]; rfl
    | bl b => rw [rep_bl rb]; simp only [eqV, weq, dec_beq, b2_if]
    | int b => rw [rep_int1 rb]; simp only [eqV, weq, dec_beq]
    | str b => rw [rep_str1 rb]; rfl
    | _ => cases fb
  | str a =>
    rw [rep_str1 ra]
    cases b with
    | non => rw [rep_non1 rb]; rfl
    | bl b => rw [rep_bl rb]; rfl
    | int b => rw [rep_int1 rb]; rfl
    | str b => rw [rep_str1 rb]; simp only [eqV, weq, dec_S]
    | _ => cases fb
  | _ => cases fa
theorem flat_of {K : Frag} {H : Hp} {a : W} {v : V} (r : Rep K H a v) (f : flatW a = true) : flatV v = true := by
  cases a with
  | non => rw [rep_non1 r]; rfl
  | bl b => rw [rep_bl r]; rfl
  | int b => rw [rep_int1 r]; rfl
  | str b => rw [rep_str1 r]; rfl
  | _ => cases f
theorem flat_all {K : Frag} {H : Hp} : ∀ {ws : List W} {vs : List V}, RepL K H ws vs → ws.all flatW = true → vs.all flatV = true
  | [], _, r, _ => by simp only [RepL] at r; subst r; rfl
  | w :: ws, _, r, f => by
    simp only [RepL] at r
    obtain ⟨v, r', rfl, a, b⟩ := r
    rw [List.all_cons, Bool.and_eq_true] at f ⊢
    exact ⟨flat_of a f.1, flat_all b f.2⟩
theorem any_flat {K : Frag} {H : Hp} {x : W} {v : V} (rx : Rep K H x v) (fx : flatW x = true) : ∀ {ws : List W} {vs : List V}, RepL K H ws vs → ws.all flatW = true → inV v vs = ws.any fun w => weq w x
  | [], _, r, _ => by simp only [RepL] at r; subst r; rfl
  | w :: ws, _, r, f => by
    simp only [RepL] at r
    obtain ⟨u, r', rfl, a, b⟩ := r
    rw [List.all_cons, Bool.and_eq_true] at f
    have ih := any_flat rx fx b f.2
    unfold inV at ih ⊢
    rw [List.any_cons, List.any_cons, eqV_weq a rx f.1 fx, ih]
theorem any_pd {x : W} (hx : okD DP x = true) : ∀ (ws : List W), ws.all (okD DP) = true → ((pdL ws).any fun z => PyData.eqv z (pd x)) = ws.any fun w => weq w x
  | [], _ => by simp only [pdL]; rfl
  | w :: ws, f => by
    rw [List.all_cons, Bool.and_eq_true] at f
    simp only [pdL]
    rw [List.any_cons, List.any_cons, eqv_weq w x _ _ f.1 hx, any_pd hx ws f.2]
theorem shaped_tup {ws : List W} (h : ws.all (okD DP) = true) : SeqAt.shaped (.tuple (pdL ws)) = true := by
  have q := shaped_list h
  unfold SeqAt.shaped PyData.canLay0 PyData.depth at q ⊢
  exact q
def rTin (K : Frag) (neg : Bool → Bool) : L2.R2 := fun x y H Q => ∃ d ds, Dp K H x d ∧ Dp K H y (.tuple ds) ∧ SeqAt.shaped d = true ∧ SeqAt.shaped (.tuple ds) = true ∧ Q (.bl (neg (ds.any fun z => PyData.eqv z d))) H
theorem op_tin (hu : X.A.units + 65 < cLine) : OpR X (compareOp .In) (rTin X.K fun k => k) := by
  intro pins s σ H x y v u Q I rx ry h
  obtain ⟨d, ds, h1, h2, sd, se, q⟩ := h
  obtain ⟨_, r1⟩ := Dp.reads I d x v h1 rx
  obtain ⟨_, r2⟩ := Dp.reads I (.tuple ds) y u h2 ry
  exact SeqAt.in_tuple_reads r2 r1 (SeqAt.canLay_of_shaped se) (SeqAt.canLay_of_shaped sd) (room_in_shaped sd hu) ⟨.bl _, H, I, rfl, q⟩
theorem op_tnin (hu : X.A.units + 65 < cLine) : OpR X (compareOp .NotIn) (rTin X.K fun k => !k) := by
  intro pins s σ H x y v u Q I rx ry h
  obtain ⟨d, ds, h1, h2, sd, se, q⟩ := h
  obtain ⟨_, r1⟩ := Dp.reads I d x v h1 rx
  obtain ⟨_, r2⟩ := Dp.reads I (.tuple ds) y u h2 ry
  exact SeqAt.notIn_tuple_reads r2 r1 (SeqAt.canLay_of_shaped se) (SeqAt.canLay_of_shaped sd) (room_in_shaped sd hu) ⟨.bl _, H, I, rfl, q⟩
theorem in_sim {r0 r1 r2 r3 : L2.R2} {neg : Bool → Bool} (h0 : ∀ (c : Nat) (z : Str) H Q, Q (.bl (neg (decide (c ∈ z.cps.toList)))) H → r0 (.str ⟨#[c]⟩) (.str z) H Q)
    (h1 : ∀ x p xs H Q, SqT X.K H p xs → flatV x = true → xs.all flatV = true → Q (.bl (neg (inV x xs))) H → r1 x (.ref p) H Q)
    (h2 : ∀ x y d ds H Q, Dp X.K H x d → Dp X.K H y (.list ds) → SeqAt.shaped d = true → SeqAt.shaped (.list ds) = true → Q (.bl (neg (ds.any fun z => PyData.eqv z d))) H → r2 x y H Q)
    (h3 : ∀ x y d ds H Q, Dp X.K H x d → Dp X.K H y (.tuple ds) → SeqAt.shaped d = true → SeqAt.shaped (.tuple ds) = true → Q (.bl (neg (ds.any fun z => PyData.eqv z d))) H → r3 x y H Q) :
    ∀ x y v u H G (Q3 : QV) (Q : VK), Rel X.K H G → Rep X.K H x v → Rep X.K H y u → rInA x y G (fun k => Q3 (.bl (neg k)) G) →
      (∀ v H' w G', Ext X.K H H' → Rel X.K H' G' → Rep X.K H' w v → Q3 w G' → Q v H') → r0 v u H Q ∨ r1 v u H Q ∨ r2 v u H Q ∨ r3 v u H Q := by
  intro x y v u H G Q3 Q r rv ru h k
  cases y with
  | str z =>
    simp only [rInA] at h
    split at h
    · rw [rep_str1 rv, rep_str1 ru]
      refine .inl (h0 _ (S z) H Q ?_)
      rw [S_toList]
      exact k _ H _ G .refl r rbl h
    · exact h.elim
  | tup ws =>
    obtain ⟨p, xs, rfl, s1, s2⟩ := rep_tup ru
    obtain ⟨a, q⟩ := h
    rcases a with ⟨a, b⟩ | ⟨a, b⟩
    · refine .inr (.inl (h1 v p xs H Q s1 (flat_of rv a) (flat_all s2 b) ?_))
      rw [any_flat rv a s2 b]
      exact k _ H _ G .refl r rbl q
    · refine .inr (.inr (.inr (h3 v _ (pd x) (pdL ws) H Q (dp_rep x v _ a rv) (.tup s1 (dp_repL ws xs _ b s2)) (shaped_pd a) (shaped_tup b) ?_)))
      rw [any_pd a ws b]
      exact k _ H _ G .refl r rbl q
  | ktp ws =>
    obtain ⟨p, xs, rfl, s1, s2⟩ := rep_ktp ru
    obtain ⟨⟨a, b⟩, q⟩ := h
    refine .inr (.inl (h1 v p xs H Q s1 (flat_of rv a) (flat_all s2 b) ?_))
    rw [any_flat rv a s2 b]
    exact k _ H _ G .refl r rbl q
  | ref a =>
    cases e : G a with
    | none => simp only [rInA, e] at h
    | some o =>
      cases o with
      | lst ws =>
        simp only [rInA, e] at h
        obtain ⟨a, b, q⟩ := h
        obtain ⟨xs, s1, s2⟩ := r.lst e
        rw [rep_ref1 ru]
        refine .inr (.inr (.inl (h2 v _ (pd x) (pdL ws) H Q (dp_rep x v _ a rv) (.lst (.inl (.inl s1)) (dp_repL ws xs _ b s2)) (shaped_pd a) (shaped_list b) ?_)))
        rw [any_pd a ws b]
        exact k _ H _ G .refl r rbl q
      | _ => simp only [rInA, e] at h
  | _ => exact h.elim
theorem o_in (hu : X.A.units + 65 < cLine) : OpR3 X (compareOp .In) rIn :=
  ⟨_, op_in_sign.or (op_in_seq.or ((op_inD hu).or (op_tin hu))), in_sim (neg := fun k => k) (fun c z H Q q => ⟨c, z, rfl, rfl, q⟩) (fun x p xs H Q a b c q => ⟨p, xs, rfl, .inr a, b, c, q⟩)
    (fun x y d ds H Q a b c z q => ⟨d, ds, a, b, c, z, q⟩) fun x y d ds H Q a b c z q => ⟨d, ds, a, b, c, z, q⟩⟩
theorem o_notin (hu : X.A.units + 65 < cLine) : OpR3 X (compareOp .NotIn) rNotIn :=
  ⟨_, op_notIn_sign.or (op_notIn_seq.or ((op_notInD hu).or (op_tnin hu))), in_sim (neg := fun k => !k) (fun c z H Q q => ⟨c, z, rfl, rfl, q⟩) (fun x p xs H Q a b c q => ⟨p, xs, rfl, .inr a, b, c, q⟩)
    (fun x y d ds H Q a b c z q => ⟨d, ds, a, b, c, z, q⟩) fun x y d ds H Q a b c z q => ⟨d, ds, a, b, c, z, q⟩⟩
/-! ### subscripts, slices -/
theorem ixn_eq (n : Nat) (i : Int) : ixN n i = ixn n i := by
  unfold ixN ixn
  by_cases h : 0 ≤ i
  · rw [if_pos h, if_pos h]
    by_cases h2 : i < n
    · rw [if_pos h2, if_pos (by omega)]
    · rw [if_neg h2, if_neg (by omega)]
  · rw [if_neg h, if_neg h]
    by_cases h2 : -(n : Int) ≤ i
    · rw [if_pos h2, if_pos (by omega)]
      congr 1
      omega
    · rw [if_neg h2, if_neg (by omega)]
theorem atI_eq {α : Type} (xs : List α) (i : Int) : atI xs i = at_ xs i := by
  unfold atI at_
  rw [ixn_eq]
  cases ixn xs.length i <;> rfl
theorem at_rep {K : Frag} {H : Hp} {ws : List W} {xs : List V} {i : Int} {w : W} (r : RepL K H ws xs) (e : at_ ws i = some w) : ∃ v, atI xs i = some v ∧ Rep K H w v := by
  rw [atI_eq]
  unfold at_ at e ⊢
  rw [← r.length]
  cases q : ixn ws.length i with
  | none => rw [q] at e; cases e
  | some j =>
    rw [q] at e
    exact r.get e
theorem ix_at {K : Frag} {H : Hp} {G : Gh} {ws : List W} {xs : List V} {i : Int} {Q3 : QV} (rl : RepL K H ws xs) (h : match at_ ws i with | some w => Q3 w G | none => False) : ∃ w v, at_ ws i = some w ∧ atI xs i = some v ∧ Rep K H w v ∧ Q3 w G := by
  cases q : at_ ws i with
  | none => rw [q] at h; exact h.elim
  | some w =>
    rw [q] at h
    obtain ⟨v, e1, e2⟩ := at_rep rl q
    exact ⟨w, v, rfl, e1, e2, h⟩
theorem x_ix : IxR3 X rIx := by
  refine ⟨_, ix_seq, fun x y v u H G Q3 Q r rv ru h k => ?_⟩
  cases x with
  | str z =>
    cases y with
    | int i =>
      obtain ⟨hz, h⟩ := h
      rw [rep_str1 rv, rep_int1 ru]
      cases q : at_ z i with
      | none => rw [q] at h; exact h.elim
      | some c =>
        rw [q] at h
        exact .inr (.inr ⟨S z, i, c, rfl, rfl, by rw [S_length, sz_eq]; exact hz, by rw [S_toList, atI_eq]; exact q, k _ H (.str [c]) G .refl r rstr h⟩)
    | _ => exact h.elim
  | tup ws =>
    cases y with
    | int i =>
      obtain ⟨p, xs, rfl, s1, s2⟩ := rep_tup rv
      rw [rep_int1 ru]
      obtain ⟨w, v, e1, e2, e3, q⟩ := ix_at s2 h
      exact .inr (.inl ⟨p, xs, i, v, rfl, rfl, s1, e2, k v H w G .refl r e3 q⟩)
    | _ => exact h.elim
  | ktp ws =>
    cases y with
    | int i =>
      obtain ⟨p, xs, rfl, s1, s2⟩ := rep_ktp rv
      rw [rep_int1 ru]
      obtain ⟨w, v, e1, e2, e3, q⟩ := ix_at s2 h
      exact .inr (.inl ⟨p, xs, i, v, rfl, rfl, s1, e2, k v H w G .refl r e3 q⟩)
    | _ => exact h.elim
  | ref a =>
    have go : ∀ ws, (G a = some (.lst ws) ∨ G a = some (.rdl ws)) → (match (generalizing := false) y with | .int i => (match at_ ws i with | some w => Q3 w G | none => False) | _ => False) → L2.rIx X.K v u H Q := fun ws e h => by
      cases y with
      | int i =>
        obtain ⟨xs, s1, s2⟩ := r.seq e
        rw [rep_ref1 rv, rep_int1 ru]
        obtain ⟨w, v, e1, e2, e3, q⟩ := ix_at s2 h
        exact .inl ⟨a, xs, i, v, rfl, rfl, s1, e2, k v H w G .refl r e3 q⟩
      | _ => exact h.elim
    cases e : G a with
    | none => simp only [L3.rIx, e] at h
    | some o =>
      cases o with
      | lst ws => simp only [L3.rIx, e] at h; exact go ws (.inl e) h
      | rdl ws => simp only [L3.rIx, e] at h; exact go ws (.inr e) h
      | _ => simp only [L3.rIx, e] at h
  | _ => exact h.elim
theorem SlR.or {r r' : V → Option Int → Option Int → Hp → VK → Prop} (a : SlR X r) (b : SlR X r') : SlR X fun x lo hi H Q => r x lo hi H Q ∨ r' x lo hi H Q := by
  intro pins s σ H x v vl vu lo hi sl Q I rx hs pl pu h
  rcases h with h | h
  · exact a pins s σ H x v vl vu lo hi sl Q I rx hs pl pu h
  · exact b pins s σ H x v vl vu lo hi sl Q I rx hs pl pu h
theorem cut_whole {ws : List W} {lo hi : Option Int} (h : lo_ ws.length lo = 0 ∧ hi_ ws.length hi = ws.length) : cut ws lo hi = ws := by
  unfold cut
  rw [h.1, h.2, List.drop_zero, Nat.sub_zero, List.take_length]
theorem pe3_sl {e : Expr} {lo hi : Option Expr} {te : TE} {tl th : TO} {p2 pos : Pos} (he : PE3 X e te) (hl : PO3 X lo tl) (hh : PO3 X hi th) : PE3 X (.Subscript e (.Slice lo hi none p2) pos) (eSl te tl th) := fun E tk => by
  obtain ⟨t1, p1, q1⟩ := he E tk
  obtain ⟨t2, p2, q2⟩ := hl E tk
  obtain ⟨t3, p3, q3⟩ := hh E tk
  refine ⟨_, pe_slice (SlR.or sl_str (SlR.or sl_tupA sl_list)) p1 p2 p3, fun σ H γ G Q3 Q hs hr h3 k => ?_⟩
  refine q1 σ H γ G _ _ hs hr h3 fun v H1 w G1 x1 r1 rv h3 => ?_
  refine q2 σ H1 γ G1 _ _ (hs.ext x1) r1 h3 fun i H2 G2 x2 r2 h3 => ?_
  refine q3 σ H2 γ G2 _ _ (hs.ext (x1.trans x2)) r2 h3 fun j H3 G3 x3 r3 h3 => ?_
  have rv := rv.ext (x2.trans x3)
  have y := (x1.trans x2).trans x3
  cases w with
  | str z =>
    rw [rep_str1 rv]
    refine .inl ⟨S z, rfl, by rw [S_length, sz_eq]; exact h3.1, ?_⟩
    rw [cutS_eq]
    exact k _ H3 _ G3 y r3 rstr h3.2
  | tup ws =>
    obtain ⟨p, xs, rfl, s1, s2⟩ := rep_tup rv
    refine .inr (.inl ⟨p, xs, rfl, s1, fun e => ?_, fun _ t ht => ?_⟩)
    · rw [lo_eq, hi_eq, ← s2.length] at e
      have h4 : Q3 (.tup (cut ws i j)) G3 := h3
      rw [cut_whole e] at h4
      exact k _ H3 _ G3 y r3 rv h4
    · rw [cut_eq]
      exact k _ _ _ G3 (y.trans (.new ht)) (r3.hid ht) (rep_new_tup ht (s2.cut i j)) h3
  | ref a =>
    cases e : G3 a with
    | none => simp only [rSl, e] at h3
    | some o =>
      cases o with
      | lst ws =>
        simp only [rSl, e] at h3
        obtain ⟨xs, s1, s2⟩ := r3.lst e
        rw [rep_ref1 rv]
        refine .inr (.inr ⟨a, xs, rfl, .inl (.inl s1), fun p hp => ?_⟩)
        rw [cut_eq]
        exact k _ _ _ _ (y.trans (.new hp)) (r3.new (o := .lst (cut ws i j)) hp ⟨_, upd_same, (s2.cut i j).ext (.new hp)⟩) rref (h3 p (r3.free hp))
      | _ => simp only [rSl, e] at h3
  | _ => exact h3.elim
end
end L3

end
section
/-! L3SndE: built-ins, methods, dicts, the rule for a def. -/
namespace L3
open PySem PySem.Spec PyProof.Rows L2
section
variable {X : Cx}
theorem KV_len {K : Frag} {H : Hp} {ws : List (W × W)} {ks : List (Key × V)} (h : RepKV keyW K H ws ks) : ws.length = ks.length := h.length
theorem b_len : CallR3 X (.builtin "len") bLen := by
  have cl : CallR X (.builtin "len") (fun xs H Q => (∃ x n, xs = [x] ∧ LenV X.K x H n ∧ Q (.int n) H) ∨ (∃ d kvs, xs = [.ref d] ∧ H d = some (.dK kvs) ∧ Q (.int kvs.length) H) ∨ rLenT xs H Q) := by
    intro pins s σ H xs us Q I r h
    rcases h with h | h | h
    · exact call_len pins s σ H xs us Q I r h
    · exact call_lenD pins s σ H xs us Q I r h
    · exact call_len_dT pins s σ H xs us Q I r h
  refine ⟨_, cl, fun ws vs H G Q3 Q r rv h k => ?_⟩
  simp only [bLen] at h
  split at h
  · obtain ⟨v, rfl, e⟩ := repl1 rv
    rw [rep_str1 e]
    refine .inl ⟨_, _, rfl, ⟨by rw [S_length, sz_eq]; exact h.1, rfl⟩, ?_⟩
    rw [S_length]
    exact k _ H _ G .refl r rint h.2
  · obtain ⟨v, rfl, e⟩ := repl1 rv
    obtain ⟨p, xs, rfl, s1, s2⟩ := rep_tup e
    refine .inl ⟨_, xs.length, rfl, .inr ⟨xs, s1, rfl⟩, ?_⟩
    rw [← s2.length]
    exact k _ H _ G .refl r rint h
  · obtain ⟨v, rfl, e⟩ := repl1 rv
    obtain ⟨p, xs, rfl, s1, s2⟩ := rep_ktp e
    refine .inl ⟨_, xs.length, rfl, .inr ⟨xs, s1, rfl⟩, ?_⟩
    rw [← s2.length]
    exact k _ H _ G .refl r rint h
  · rename_i a
    obtain ⟨v, rfl, e⟩ := repl1 rv
    rw [rep_ref1 e]
    have seq : ∀ t, (G a = some (.lst t) ∨ G a = some (.rdl t)) → Q3 (.int t.length) G → ((∃ x n, [V.ref a] = [x] ∧ LenV X.K x H n ∧ Q (.int n) H) ∨ (∃ d kvs, [V.ref a] = [.ref d] ∧ H d = some (.dK kvs) ∧ Q (.int kvs.length) H) ∨ rLenT [V.ref a] H Q) := fun t e h => by
      obtain ⟨xs, s1, s2⟩ := r.seq e
      refine .inl ⟨_, xs.length, rfl, .inl ⟨xs, s1, rfl⟩, ?_⟩
      rw [← s2.length]
      exact k _ H _ G .refl r rint h
    split at h
    · rename_i t eq; exact seq t (.inl eq) h
    · rename_i t eq; exact seq t (.inr eq) h
    · rename_i t eq
      obtain ⟨ks, s1, s2⟩ := r a _ eq
      refine .inr (.inl ⟨a, ks, rfl, s1, ?_⟩)
      rw [← s2.length]
      exact k _ H _ G .refl r rint h
    · rename_i t eq
      obtain ⟨ks, s1, s2⟩ := r a _ eq
      refine .inr (.inr ⟨a, ks, rfl, s1, ?_⟩)
      rw [← s2.length]
      exact k _ H _ G .refl r rint h
    · exact h.elim
  · exact h.elim
theorem b_abs : CallR3 X (.builtin "abs") bAbs := by
  refine ⟨_, call_abs, fun ws vs H G Q3 Q r rv h k => ?_⟩
  simp only [bAbs] at h
  split at h
  · rename_i i
    obtain ⟨v, rfl, e⟩ := repl1 rv
    rw [rep_int1 e]
    refine ⟨i, rfl, ?_⟩
    have z : (if i < 0 then -i else i) = (i.natAbs : Int) := by split <;> omega
    rw [z]
    exact k _ H _ G .refl r rint h
  · exact h.elim
theorem int_S3 {a : List Nat} (h : a.all isDg = true) (hne : a ≠ []) (hl : a.length ≤ 4300) : intText? (S a) = some ((digVal a : Nat) : Int) :=
  intText_digits (x := S a) (fun c hc => by
    have z : (decide (48 ≤ c) && decide (c ≤ 57)) = true := List.all_eq_true.mp h c hc
    rw [Bool.and_eq_true, decide_eq_true_eq, decide_eq_true_eq] at z
    exact z) hne (by rw [S_length]; exact hl)
theorem digVal_eq (s : List Nat) : digVal s = NumText.digitsVal s := rfl
theorem b_int : CallR3 X (.type "int") bInt := by
  have cl : CallR X (.type "int") (fun xs H Q => ((∃ i, xs = [.int i] ∧ Q (.int i) H) ∨ (∃ b : Bool, xs = [.bl b] ∧ Q (.int (if b then 1 else 0)) H)) ∨ ∃ a n, xs = [.str a] ∧ PySem.intText? a = some n ∧ a.length ≤ 640 ∧ Q (.int n) H) := by
    intro pins s σ H xs us Q I r h
    rcases h with h | h
    · exact call_int1 pins s σ H xs us Q I r h
    · exact call_int_str pins s σ H xs us Q I r h
  refine ⟨_, cl, fun ws vs H G Q3 Q r rv h k => ?_⟩
  simp only [bInt] at h
  split at h
  · obtain ⟨v, rfl, e⟩ := repl1 rv
    rw [rep_int1 e]
    exact .inl (.inl ⟨_, rfl, k _ H _ G .refl r rint h⟩)
  · obtain ⟨v, rfl, e⟩ := repl1 rv
    rw [rep_bl e]
    refine .inl (.inr ⟨_, rfl, ?_⟩)
    rw [b2_if]
    exact k _ H _ G .refl r rint h
  · obtain ⟨v, rfl, e⟩ := repl1 rv
    rename_i s
    rw [rep_str1 e]
    obtain ⟨h1, h2, h3, h⟩ := h
    exact .inr ⟨_, _, rfl, int_S3 h2 h1 (by omega), by rw [S_length]; exact h3, k _ H _ G .refl r rint h⟩
  · exact h.elim
theorem b_min (hc : X.calm = true) : CallR3 X (.builtin "min") bMin := by
  refine ⟨_, call_min2 hc, fun ws vs H G Q3 Q r rv h k => ?_⟩
  simp only [bMin] at h
  split at h
  · rename_i i j
    obtain ⟨v, u, rfl, e, e'⟩ := repl2 rv
    rw [rep_int1 e, rep_int1 e']
    refine ⟨i, j, rfl, ?_⟩
    have z : (if j < i then j else i) = min i j := by split <;> omega
    rw [z]
    exact k _ H _ G .refl r rint h
  · exact h.elim
theorem b_max (hc : X.calm = true) : CallR3 X (.builtin "max") bMax := by
  refine ⟨_, call_max2 hc, fun ws vs H G Q3 Q r rv h k => ?_⟩
  simp only [bMax] at h
  split at h
  · rename_i i j
    obtain ⟨v, u, rfl, e, e'⟩ := repl2 rv
    rw [rep_int1 e, rep_int1 e']
    refine ⟨i, j, rfl, ?_⟩
    have z : (if j > i then j else i) = max i j := by split <;> omega
    rw [z]
    exact k _ H _ G .refl r rint h
  · exact h.elim
theorem ints_of : ∀ {ws : List W} {ns : List Int}, intsW ws = some ns → ws = ns.map W.int
  | [], ns, h => by cases h; rfl
  | .int i :: r, ns, h => by
    unfold intsW at h
    cases q : intsW r with
    | none => rw [q] at h; cases h
    | some m =>
      rw [q] at h
      cases h
      rw [ints_of q]; rfl
  | .non :: _, _, h => by cases h
  | .bl _ :: _, _, h => by cases h
  | .str _ :: _, _, h => by cases h
  | .ref _ :: _, _, h => by cases h
  | .ty _ :: _, _, h => by cases h
  | .tup _ :: _, _, h => by cases h
theorem strs_of : ∀ {ws : List W} {ns : List (List Nat)}, strsW ws = some ns → ws = ns.map W.str
  | [], ns, h => by cases h; rfl
  | .str i :: r, ns, h => by
    unfold strsW at h
    cases q : strsW r with
    | none => rw [q] at h; cases h
    | some m =>
      rw [q] at h
      cases h
      rw [strs_of q]; rfl
  | .non :: _, _, h => by cases h
  | .bl _ :: _, _, h => by cases h
  | .int _ :: _, _, h => by cases h
  | .ref _ :: _, _, h => by cases h
  | .ty _ :: _, _, h => by cases h
  | .tup _ :: _, _, h => by cases h
theorem b_sum (hc : X.calm = true) : CallR3 X (.builtin "sum") bSum := by
  refine ⟨_, cr_sum hc, fun ws vs H G Q3 Q r rv h k => ?_⟩
  simp only [bSum] at h
  split at h
  · obtain ⟨v, rfl, e⟩ := repl1 rv
    rw [rep_ref1 e]
    split at h
    · rename_i t eq
      cases q : intsW t with
      | none => rw [q] at h; exact h.elim
      | some ns =>
        rw [q] at h
        obtain ⟨xs, s1, s2⟩ := r.lst eq
        rw [ints_of q] at s2
        rw [RepL.ints s2] at s1
        exact ⟨_, ns, rfl, .inl (.inl s1), k _ H _ G .refl r rint h⟩
    · exact h.elim
  · exact h.elim
theorem kitB_all : ∀ a ∈ ("NoneType" :: tyN), ∀ b ∈ tyN, kitB a b = some (isSub a b) := by decide +kernel
theorem cls_ty {K : Frag} {H : Hp} {G : Gh} {x : W} {v : V} {c : String} (r : Rel K H G) (rv : Rep K H x v) (h : clsN x G = some c) : TyX K H v (.type c) ∧ c ∈ ("NoneType" :: tyN) := by
  cases x with
  | non => cases h; rw [rep_non1 rv]; exact ⟨.base .non, by decide⟩
  | bl b => cases h; rw [rep_bl rv]; exact ⟨.base (.bl b), by decide⟩
  | int b => cases h; rw [rep_int1 rv]; exact ⟨.base (.int b), by decide⟩
  | str b => cases h; rw [rep_str1 rv]; exact ⟨.base (.str _), by decide⟩
  | tup ws =>
    cases h
    obtain ⟨p, xs, rfl, s1, s2⟩ := rep_tup rv
    refine ⟨?_, by decide⟩
    rcases s1 with (s1 | ⟨o, s1⟩) | ⟨o, its, n, s1, s3, s4, s5⟩
    · exact .base (.tup s1)
    · exact .fTuple s1
    · exact .kTuple s1 s3
  | ktp ws =>
    cases h
    obtain ⟨p, xs, rfl, s1, s2⟩ := rep_ktp0 rv
    refine ⟨?_, by decide⟩
    rcases s1 with (s1 | ⟨o, s1⟩) | ⟨o, its, n, s1, s3, s4, s5⟩
    · cases s1
    · cases s1
    · exact .kTuple s1 s3
  | ref a =>
    rw [rep_ref1 rv]
    cases e : G a with
    | none => simp only [clsN, e] at h; cases h
    | some o =>
      cases o with
      | lst t => simp only [clsN, e] at h; cases h; obtain ⟨xs, s1, _⟩ := r a _ e; exact ⟨.base (.lst s1), by decide⟩
      | rdl t => simp only [clsN, e] at h; cases h; obtain ⟨o, xs, s1, _⟩ := r a _ e; exact ⟨.base (.frz s1), by decide⟩
      | dct t => simp only [clsN, e] at h; cases h; obtain ⟨xs, s1, _⟩ := r a _ e; exact ⟨.base (.dK s1), by decide⟩
      | dtt t => simp only [clsN, e] at h; cases h; obtain ⟨xs, s1, _⟩ := r a _ e; exact ⟨.base (.dT s1), by decide⟩
      | ins C ns t => simp only [clsN, e] at h; cases h
      | exo C ns t => simp only [clsN, e] at h; cases h
      | rdc t => simp only [clsN, e] at h; cases h; obtain ⟨o, xs, s1, _⟩ := r a _ e; exact ⟨.fDict s1, by decide⟩
      | rdt t => simp only [clsN, e] at h; cases h
  | ty n => cases h
  | kl n => cases h
theorem b_isi : CallR3 X (.builtin "isinstance") bIsi := by
  refine ⟨_, call_isi, fun ws vs H G Q3 Q r rv h k => ?_⟩
  simp only [bIsi] at h
  split at h
  · rename_i x n
    obtain ⟨v, u, rfl, e, e'⟩ := repl2 rv
    rw [rep_ty1 e']
    cases q : clsN x G with
    | none => rw [q] at h; exact h.elim
    | some c =>
      rw [q] at h
      obtain ⟨t1, t2⟩ := cls_ty r e q
      exact ⟨v, .ty n, .type c, .type n, _, rfl, .ty n, t1, kit_ty (kitB_all c t2 n h.1), k _ H _ G .refl r rbl h.2⟩
  · exact h.elim
/-! ### methods -/
theorem m_append : MtR3 X "list.append" mAppend := by
  refine ⟨_, mt_append, fun w v ws vs H G Q3 Q r rv rl h k => ?_⟩
  cases w with
  | ref a =>
    simp only [mAppend] at h
    split at h
    · rename_i t eq
      split at h
      · obtain ⟨u, rfl, e⟩ := repl1 rl
        obtain ⟨xs, s1, s2⟩ := r.lst eq
        rw [rep_ref1 rv]
        have m : Mut (H a) := by rw [s1]; trivial
        refine ⟨a, xs, u, rfl, rfl, s1, by rw [← s2.length, sz_eq]; exact h.1, ?_⟩
        exact k _ _ _ _ (.write m) (r.write (o := .lst (t ++ [_])) m ⟨_, upd_same, (s2.append (.one e)).ext (.write m)⟩) rnon h.2
      · exact h.elim
    · exact h.elim
  | _ => exact h.elim
def preH (a : List Nat) : List (List Nat) → List (List Nat)
  | [] => []
  | p :: q => (a ++ p) :: q
theorem spl_split (c : Nat) : ∀ (l acc : List Nat), TL.spl [c] 0 acc l = preH acc (splitN c l)
  | [], acc => by rw [TL.spl_nil]; show [acc] = [acc ++ []]; rw [List.append_nil]
  | d :: r, acc => by
    rw [splitN_cons]
    by_cases h : d = c
    · subst h
      rw [TL.spl_hit (by simp [TL.pre]), show ([d].length - 1) = 0 from rfl, spl_split d r [], if_pos rfl]
      show acc :: preH [] (splitN d r) = (acc ++ []) :: splitN d r
      rw [List.append_nil]
      cases q : splitN d r with
      | nil => exact absurd q (splitN_ne d r)
      | cons p q => rfl
    · rw [TL.spl_miss (by simp [TL.pre]; exact h), spl_split c r, if_neg h]
      cases q : splitN c r with
      | nil => exact absurd q (splitN_ne c r)
      | cons p z => show (acc ++ [d] ++ p) :: z = (acc ++ d :: p) :: z; rw [List.append_assoc]; rfl
theorem tl_S (l : List Nat) : TL.tl (S l) = l := rfl
theorem split_eq {c : Nat} (hc : c < 256) (l : List Nat) : Txt.split (S l) (S [c]) = (splitN c l).map S := by
  apply TL.map_tl_inj
  rw [TL.split_spl _ _ (by simp [S]) (TL.kind_ok (by simpa [S] using hc)), tl_S, tl_S, spl_split]
  rw [List.map_map]
  have e : (TL.tl ∘ S) = id := by funext x; rfl
  rw [e, List.map_id]
  cases q : splitN c l with
  | nil => exact absurd q (splitN_ne c l)
  | cons p r => rfl
theorem repl_strs {K : Frag} {H : Hp} : ∀ ps : List (List Nat), RepL K H (ps.map W.str) ((ps.map S).map V.str)
  | [] => .nil
  | _ :: r => .cons rstr (repl_strs r)
theorem m_split : MtR3 X "str.split" mSplit := by
  refine ⟨_, mt_split, fun w v ws vs H G Q3 Q r rv rl h k => ?_⟩
  cases w with
  | str l =>
    simp only [mSplit] at h
    split at h
    · rename_i c
      obtain ⟨u, rfl, e⟩ := repl1 rl
      rw [rep_str1 rv, rep_str1 e]
      refine ⟨S l, S [c], rfl, rfl, rfl, by rw [S_length, sz_eq]; exact h.2.1, fun p hp => ?_⟩
      rw [split_eq h.1]
      exact k _ _ _ _ (.new hp) (r.new (o := .lst ((splitN c l).map W.str)) hp ⟨_, upd_same, repl_strs _⟩) rref (h.2.2 p (r.free hp))
    · exact h.elim
  | _ => exact h.elim
theorem cnt_count (c : Nat) : ∀ l : List Nat, cnt c l = ((l.count c : Nat) : Int)
  | [] => by rw [cnt_nil]; rfl
  | d :: r => by
    rw [cnt_cons, cnt_count c r, List.count_cons]
    by_cases h : d = c
    · subst h
      rw [if_pos rfl, if_pos (beq_self_eq_true d)]
      omega
    · rw [if_neg h, if_neg (fun z => h (eq_of_beq z))]
      omega
theorem m_count : MtR3 X "str.count" mCount := by
  refine ⟨_, mt_count, fun w v ws vs H G Q3 Q r rv rl h k => ?_⟩
  cases w with
  | str l =>
    simp only [mCount] at h
    split at h
    · rename_i c
      obtain ⟨u, rfl, e⟩ := repl1 rl
      rw [rep_str1 rv, rep_str1 e]
      refine ⟨S l, S [c], rfl, rfl, ?_⟩
      have e : Txt.count (S l) (S [c]) = (l.count c : Nat) := by
        rw [show S [c] = ⟨#[c]⟩ from rfl, count_cnt, S_toList]
        exact cnt_count c l
      rw [e]
      exact k _ H _ G .refl r rint h
    · exact h.elim
  | _ => exact h.elim
theorem join_eqN (s : List Nat) : ∀ ps : List (List Nat), Txt.join (S s) (ps.map S) = S (joinN s ps) := by
  intro ps
  have e : ∀ ps : List (List Nat), TL.joinL s ps = joinN s ps := by
    intro ps
    induction ps with
    | nil => rfl
    | cons p q ih =>
      cases q with
      | nil => rfl
      | cons q r =>
        show p ++ (s ++ TL.joinL s (q :: r)) = p ++ s ++ joinN s (q :: r)
        rw [ih, List.append_assoc]
  rw [TL.join_eq]
  apply TL.ext_tl
  rw [TL.tl_join, tl_S, tl_S, List.map_map]
  have e2 : (TL.tl ∘ S) = id := by funext x; rfl
  rw [e2, List.map_id, e]
theorem m_join : MtR3 X "str.join" mJoin := by
  refine ⟨_, mt_join, fun w v ws vs H G Q3 Q r rv rl h k => ?_⟩
  cases w with
  | str l =>
    simp only [mJoin] at h
    have lens : ∀ ps : List (List Nat), joinLen l ps ≤ SZ → ((ps.map S).map (·.length)).sum + (ps.map S).length * (S l).length ≤ 16777216 := fun ps hz => by
      unfold joinLen at hz
      rw [List.map_map, List.length_map, S_length]
      have e : ((fun x : Str => x.length) ∘ S) = fun x : List Nat => x.length := by funext x; exact S_length x
      rw [e, Nat.mul_comm]
      exact hz
    split at h
    · rename_i a
      obtain ⟨u, rfl, e⟩ := repl1 rl
      rw [rep_str1 rv, rep_ref1 e]
      split at h
      · rename_i t eq
        cases q : strsW t with
        | none => rw [q] at h; exact h.elim
        | some ps =>
          rw [q] at h
          obtain ⟨xs, s1, s2⟩ := r.lst eq
          rw [strs_of q] at s2
          rw [RepL.strs s2] at s1
          refine ⟨S l, a, ps.map S, rfl, rfl, .inl (.inl (.inl s1)), lens ps h.1, ?_⟩
          rw [join_eqN]
          exact k _ H _ G .refl r rstr h.2
      · exact h.elim
    · rename_i t
      obtain ⟨u, rfl, e⟩ := repl1 rl
      obtain ⟨p, xs, rfl, s1, s2⟩ := rep_tup e
      rw [rep_str1 rv]
      cases q : strsW t with
      | none => rw [q] at h; exact h.elim
      | some ps =>
        rw [q] at h
        rw [strs_of q] at s2
        rw [RepL.strs s2] at s1
        refine ⟨S l, p, ps.map S, rfl, rfl, .inr s1, lens ps h.1, ?_⟩
        rw [join_eqN]
        exact k _ H _ G .refl r rstr h.2
    · exact h.elim
  | _ => exact h.elim
/-! ### dicts with plain keys -/
def keyOf : W → Key
  | .int i => .inl i
  | .str l => .inr (S l)
  | _ => .inl 0
theorem key_rep {K : Frag} {H : Hp} {y : W} {u : V} (r : Rep K H y u) (k : key1 y = true) : u = kV (keyOf y) := by
  cases y with
  | int i => exact rep_int1 r
  | str l => exact rep_str1 r
  | _ => cases k
theorem keyOf_keyW {y : W} (k : key1 y = true) : keyW (keyOf y) = y := by
  cases y with
  | int i => rfl
  | str l => show W.str (S l).cps.toList = _; rw [S_toList]
  | _ => cases k
theorem keq_keyW (a : Key) {y : W} (k : key1 y = true) : keq (keyW a) y = decide (a = keyOf y) := by
  cases a with
  | inl i =>
    cases y with
    | int j =>
      show decide (i = j) = _
      rw [Bool.eq_iff_iff, decide_eq_true_iff, decide_eq_true_iff]
      exact ⟨fun e => by rw [e]; rfl, fun e => Sum.inl.inj e⟩
    | str l => exact (decide_eq_false (fun z => nomatch z)).symm
    | _ => cases k
  | inr x =>
    cases y with
    | int j => exact (decide_eq_false (fun z => nomatch z)).symm
    | str l =>
      show decide (x.cps.toList = l) = _
      rw [Bool.eq_iff_iff, decide_eq_true_iff, decide_eq_true_iff]
      exact ⟨fun e => by rw [← e]; show Sum.inr x = Sum.inr (S x.cps.toList); rw [S_of], fun e => by rw [Sum.inr.inj e, S_toList]⟩
    | _ => cases k
theorem look_rep {K : Frag} {H : Hp} {y : W} (k : key1 y = true) : ∀ {kvs : List (W × W)} {ks : List (Key × V)}, RepKV keyW K H kvs ks → (match look kvs y with | some w => ∃ v, valV ks (keyOf y) = some v ∧ Rep K H w v | none => valV ks (keyOf y) = none)
  | [], _, r => by cases r; rfl
  | p :: kvs, _, r => by
    obtain ⟨q, r', rfl, e, rv, rr⟩ := r
    have ih := look_rep k rr
    unfold look
    rw [e, keq_keyW q.1 k]
    by_cases h : q.1 = keyOf y
    · rw [decide_eq_true h, if_pos rfl, valV_pos h]
      exact ⟨q.2, rfl, rv⟩
    · rw [decide_eq_false h, if_neg (by decide), valV_neg h]
      exact ih
theorem look_some {K : Frag} {H : Hp} {y w : W} (k : key1 y = true) {kvs : List (W × W)} {ks : List (Key × V)} (r : RepKV keyW K H kvs ks) (e : look kvs y = some w) : ∃ v, valV ks (keyOf y) = some v ∧ Rep K H w v := by
  have h := look_rep k r
  rw [e] at h
  exact h
theorem look_none {K : Frag} {H : Hp} {y : W} (k : key1 y = true) {kvs : List (W × W)} {ks : List (Key × V)} (r : RepKV keyW K H kvs ks) (e : look kvs y = none) : valV ks (keyOf y) = none := by
  have h := look_rep k r
  rw [e] at h
  exact h
theorem has_rep {K : Frag} {H : Hp} {y : W} (k : key1 y = true) {kvs : List (W × W)} {ks : List (Key × V)} (r : RepKV keyW K H kvs ks) : has kvs y = (valV ks (keyOf y)).isSome := by
  unfold has
  cases e : look kvs y with
  | none => rw [look_none k r e]; rfl
  | some w => obtain ⟨v, q, _⟩ := look_some k r e; rw [q]; rfl
theorem map_rep {K : Frag} {H : Hp} {y w : W} {v : V} (k : key1 y = true) (rw' : Rep K H w v) : ∀ {kvs : List (W × W)} {ks : List (Key × V)}, RepKV keyW K H kvs ks →
    RepKV keyW K H (kvs.map fun p => if keq p.1 y = true then (p.1, w) else p) (ks.map fun kv => if kv.1 = keyOf y then (kv.1, v) else kv)
  | [], _, r => by cases r; rfl
  | p :: kvs, _, r => by
    obtain ⟨q, r', rfl, e, rv, rr⟩ := r
    refine ⟨_, _, rfl, ?_, ?_, map_rep k rw' rr⟩
    · dsimp only
      rw [e, keq_keyW q.1 k]
      by_cases h : q.1 = keyOf y
      · rw [decide_eq_true h, if_pos rfl, if_pos h]
      · rw [decide_eq_false h, if_neg (by decide), if_neg h]; exact e
    · dsimp only
      rw [e, keq_keyW q.1 k]
      by_cases h : q.1 = keyOf y
      · rw [decide_eq_true h, if_pos rfl, if_pos h]; exact rw'
      · rw [decide_eq_false h, if_neg (by decide), if_neg h]; exact rv
theorem snoc_rep {κ : Type} {f : κ → W} {K : Frag} {H : Hp} {w z : W} {k : κ} {v : V} (e : z = f k) (rw' : Rep K H w v) : ∀ {kvs : List (W × W)} {ks : List (κ × V)}, RepKV f K H kvs ks → RepKV f K H (kvs ++ [(z, w)]) (ks ++ [(k, v)])
  | [], _, r => by cases r; exact ⟨_, _, rfl, e, rw', rfl⟩
  | p :: kvs, _, r => by
    obtain ⟨q, r', rfl, e', rv, rr⟩ := r
    exact ⟨q, _, rfl, e', rv, snoc_rep e rw' rr⟩
theorem put_rep {K : Frag} {H : Hp} {y w : W} {v : V} (k : key1 y = true) (rw' : Rep K H w v) {kvs : List (W × W)} {ks : List (Key × V)} (r : RepKV keyW K H kvs ks) : RepKV keyW K H (putD kvs y w) (putK ks (keyOf y) v) := by
  unfold putD putK
  rw [has_rep k r, valV_any]
  split
  · exact map_rep k rw' r
  · exact snoc_rep (keyOf_keyW k).symm rw' r
theorem drop_rep {K : Frag} {H : Hp} {y : W} (k : key1 y = true) : ∀ {kvs : List (W × W)} {ks : List (Key × V)}, RepKV keyW K H kvs ks → RepKV keyW K H (dropD kvs y) (dropK ks (keyOf y))
  | [], _, r => by cases r; rfl
  | p :: kvs, _, r => by
    obtain ⟨q, r', rfl, e, rv, rr⟩ := r
    have ih := drop_rep k rr
    unfold dropD dropK at ih ⊢
    rw [List.filter_cons, List.filter_cons, e, keq_keyW q.1 k]
    by_cases h : q.1 = keyOf y
    · rw [decide_eq_true h, if_neg (by decide), if_neg (by simp [h])]
      exact ih
    · rw [decide_eq_false h, if_pos (by decide), if_pos (by simp [h])]
      exact ⟨q, _, rfl, e, rv, ih⟩
variable {o i e value : Expr} {pos pos' : Pos} {td ty tv : TE}
theorem pe3_dget (hu : X.A.units + 1 < cLine) (ho : PE3 X o td) (hi : PE3 X i ty) (hs : NoSl i) : PE3 X (.Subscript o i pos) (eOp rDget td ty) := fun E tk => by
  obtain ⟨t, p1, q1⟩ := ho E tk
  obtain ⟨u, p2, q2⟩ := hi E tk
  refine ⟨_, pe_dget hu p1 p2 hs, fun σ H γ G Q3 Q hs hr h3 k => ?_⟩
  refine q1 σ H γ G _ _ hs hr h3 fun v H1 w G1 x1 r1 rv h3 => ?_
  refine q2 σ H1 γ G1 _ _ (hs.ext x1) r1 h3 fun v2 H2 w2 G2 x2 r2 rv2 h3 => ?_
  cases w with
  | ref a =>
    simp only [rDget] at h3
    split at h3
    · rename_i kvs eq
      obtain ⟨hk, h3⟩ := h3
      obtain ⟨ks, s1, s2⟩ := r2 a _ eq
      cases q : look kvs w2 with
      | none => rw [q] at h3; exact h3.elim
      | some z =>
        rw [q] at h3
        obtain ⟨y, e1, e2⟩ := look_some hk s2 q
        rw [rep_ref1 rv, key_rep rv2 hk]
        exact ⟨a, y, rfl, by rw [← e1]; exact DGet.k s1, k y H2 z G2 (x1.trans x2) r2 e2 h3⟩
    · exact h3.elim
  | _ => exact h3.elim
theorem ps3_dput (hu : X.A.units + 1 < cLine) (ho : PE3 X o td) (hi : PE3 X i ty) (hv : PE3 X value tv) (hs : swapsWith value (some (.Subscript o i pos')) pos.line X.env = pure false := by rfl) :
    PS3 X (.Assign [.Subscript o i pos'] value pos) (sDput tv td ty) := fun E tk => by
  obtain ⟨t, p1, q1⟩ := hv E tk
  obtain ⟨u, p2, q2⟩ := ho E tk
  obtain ⟨z, p3, q3⟩ := hi E tk
  refine ⟨_, ps_dput hu p2 p3 p1 hs, fun D D3 σ H γ G hE oe hs hr h3 => ?_⟩
  cases E; dsimp only at hE; subst hE
  refine q1 σ H γ G _ _ hs hr h3 fun v H1 w G1 x1 r1 rv h3 => ?_
  refine q2 σ H1 γ G1 _ _ (hs.ext x1) r1 h3 fun v2 H2 w2 G2 x2 r2 rv2 h3 => ?_
  refine q3 σ H2 γ G2 _ _ (hs.ext (x1.trans x2)) r2 h3 fun v3 H3 w3 G3 x3 r3 rv3 h3 => ?_
  cases w2 with
  | ref a =>
    simp only at h3
    split at h3
    · rename_i kvs eq
      obtain ⟨hk, hz, h3⟩ := h3
      obtain ⟨ks, s1, s2⟩ := r3 a _ eq
      rw [rep_ref1 rv2, key_rep rv3 hk]
      have m : Mut (H3 a) := by rw [s1]; trivial
      have y := (x1.trans x2).trans x3
      refine ⟨a, _, rfl, DPut.k s1 (by rw [← s2.length, sz_eq]; exact hz), ?_⟩
      exact oe.nx σ _ γ _ (y.trans (.write m)) (hs.ext (y.trans (.write m))) (r3.write (o := .dct (putD kvs w3 w)) m ⟨_, upd_same, (put_rep hk (rv.ext (x2.trans x3)) s2).ext (.write m)⟩) h3
    · exact h3.elim
  | _ => exact h3.elim
/-! displays -/
def canX (K : Frag) (E : EX) (t3 : TE) : L2.TE := fun σ H Q => ∃ γ G Q3, RepS K E.h0 H γ σ ∧ Rel K H G ∧ t3 γ G (E γ) Q3 ∧ ∀ v H' w G', Ext K H H' → Rel K H' G' → Rep K H' w v → Q3 w G' → Q v H'
theorem PE3.canX {E : EX} {e : Expr} {te : TE} (h : PE3 X e te) (tk : TakesE X E) : PE X e (canX X.K E te) := by
  obtain ⟨t, p, q⟩ := h E tk
  exact ⟨fun pins s σ H Q I ⟨γ, G, Q3, hs, hr, h3, k⟩ => p.run pins s σ H Q I (q σ H γ G Q3 Q hs hr h3 k)⟩
def PPs3 (X : Cx) (pos : Pos) (keys : List (Option Expr)) (values : List Expr) (ps : List (TE × TE)) : Prop := ∀ E : EX, TakesE X E → PPs X pos keys values (ps.map fun p => (canX X.K E p.1, canX X.K E p.2))
theorem pps3_nil : PPs3 X pos [] [] [] := fun E tk => pps_nil
theorem pps3_cons {k v : Expr} {ks : List (Option Expr)} {vs : List Expr} {tk tv : TE} {ps : List (TE × TE)} (hk : PE3 X k tk) (hv : PE3 X v tv) (hr : PPs3 X pos ks vs ps) : PPs3 X pos (some k :: ks) (v :: vs) ((tk, tv) :: ps) := fun E t =>
  pps_cons (hk.canX t) (hv.canX t) (hr E t)
def RepP (K : Frag) (H : Hp) : List (W × W) → List (V × V) → Prop
  | [], vs => vs = []
  | w :: ws, vs => ∃ v r, vs = v :: r ∧ Rep K H w.1 v.1 ∧ Rep K H w.2 v.2 ∧ RepP K H ws r
theorem pairs_sim {K : Frag} {E : EX} {σ : St} {γ : Fr} : ∀ (ps : List (TE × TE)) (H : Hp) (G : Gh) (Q3 : List (W × W) → Gh → Prop) (Q : List (V × V) → Hp → Prop), RepS K E.h0 H γ σ → Rel K H G → pairsD ps γ G (E γ) Q3 →
    (∀ vs H' ws G', Ext K H H' → Rel K H' G' → RepP K H' ws vs → Q3 ws G' → Q vs H') → tPairs (ps.map fun p => (canX K E p.1, canX K E p.2)) σ H Q
  | [], H, G, Q3, Q, hs, hr, h, k => k [] H [] G .refl hr rfl h
  | p :: ps, H, G, Q3, Q, hs, hr, h, k => by
    refine ⟨γ, G, _, hs, hr, h, fun v1 H1 w1 G1 x1 r1 rv1 h => ?_⟩
    refine ⟨γ, G1, _, hs.ext x1, r1, h, fun v2 H2 w2 G2 x2 r2 rv2 h => ?_⟩
    refine pairs_sim ps H2 G2 _ _ (hs.ext (x1.trans x2)) r2 h fun vs H3 ws G3 x3 r3 rp h => ?_
    exact k _ H3 ((w1, w2) :: ws) G3 ((x1.trans x2).trans x3) r3 ⟨_, _, rfl, rv1.ext (x2.trans x3), rv2.ext x3, rp⟩ h
theorem merge_rep {K : Frag} {H : Hp} : ∀ {ws : List (W × W)} {vs : List (V × V)} {kvs : List (W × W)} {ks : List (Key × V)}, RepP K H ws vs → ws.all (fun q => key1 q.1) = true → RepKV keyW K H kvs ks →
    ∃ more : List (Key × V), vs = more.map (fun kv => (kV kv.1, kv.2)) ∧ more.length = ws.length ∧ RepKV keyW K H (mergeD kvs ws) (mergeK ks more)
  | [], _, kvs, ks, r, _, h => by cases r; exact ⟨[], rfl, rfl, h⟩
  | w :: ws, _, kvs, ks, r, a, h => by
    obtain ⟨v, r', rfl, e1, e2, rr⟩ := r
    rw [List.all_cons, Bool.and_eq_true] at a
    obtain ⟨more, m1, m2, m3⟩ := merge_rep rr a.2 (put_rep a.1 e2 h)
    refine ⟨(keyOf w.1, v.2) :: more, ?_, by rw [List.length_cons, List.length_cons, m2], m3⟩
    rw [List.map_cons, ← m1, ← key_rep e1 a.1]
theorem pe3_disp {keys : List (Option Expr)} {values : List Expr} {ps : List (TE × TE)} (h : PPs3 X pos keys values ps) (hall : keys.all (·.isSome) = true) (hl : keys.length = values.length) (h0 : keys ≠ []) (h15 : keys.length ≤ 15) : PE3 X (.Dict keys values pos) (eDict ps) := fun E tk => by
  refine ⟨_, pe_disp (h E tk) hall hl h0 h15, fun σ H γ G Q3 Q hs hr h3 k => fun p hp => ?_⟩
  have x0 : Ext X.K H (upd H p (.dK [])) := .new hp
  refine pairs_sim ps _ _ _ _ (hs.ext x0) (hr.new (o := .dct []) hp ⟨[], upd_same, rfl⟩) (h3 p (hr.free hp)) fun vs H2 ws G2 x2 r2 rp h => ?_
  obtain ⟨e, ha, hz, h⟩ := h
  obtain ⟨ks, s1, s2⟩ := r2 p _ e
  cases s2
  obtain ⟨more, m1, m2, m3⟩ := merge_rep (kvs := []) (ks := []) rp ha rfl
  refine ⟨s1, more, m1, by rw [m2]; exact hz, ?_⟩
  have m : Mut (H2 p) := by rw [s1]; trivial
  exact k _ _ _ _ ((x0.trans x2).trans (.write m)) (r2.write (o := .dct (mergeD [] ws)) m ⟨_, upd_same, m3.ext (.write m)⟩) rref h
end
section
variable {X : Cx} {pos : Pos}
theorem rty {K : Frag} {H : Hp} {n : String} : Rep K H (.ty n) (.ty n) := by simp only [Rep]
theorem pe3_dnew : PE3 X (.Dict [] [] pos) eDnew := fun E tk => ⟨_, pe_dnewK, fun σ H γ G Q3 Q hs hr h3 k => fun p hp =>
  k _ _ _ _ (.new hp) (hr.new (o := .dct []) hp ⟨[], upd_same, rfl⟩) rref (h3 p (hr.free hp))⟩
theorem hu65 {A : Around} {k : Nat} (hr : Room k A) : A.units + 65 < cLine := by have := hr.un; omega
end
/-! ### a def -/
section
variable {P : Program} {w : World} {K : Frag} {mg : Str → Option Value} {base : Heap}
theorem okM {x qual : Str} {st : Stmt} {f : Addr} {fd : FuncData} {N ps : List Str} {k : Nat} {sp : L2.Sp} (F : Fun K x qual st f fd) (S : FnScope N ps (defScope st)) (len : ∀ vs H Q E, sp vs H Q E → vs.length = ps.length)
    (hbody : ∀ (cdv : Value) (A : Around) (outer : List Env) (s : Shared) (H : Hp) (vs : List V) (Q : VK) (E : XK), Room k (A.deeper (envOfC qual (defScope st) s.heap.objs.size f cdv)) → sp vs H Q E →
      ∃ t, PSs (cxOf (CXM P w) P w K mg base N qual (defScope st) f cdv A outer s H E) (defBody st) t ∧ t { nx := fun _ H' => Q .non H', rt := Q } (L2.start N vs) H) : FnOk P w K mg base (CXM P w) (k + 1) f fd ps sp := by
  obtain ⟨_, _, _, _, _, _, cdv, _, _, e, lk, hcd⟩ := F.ex
  subst e
  exact fn_of lk hcd S len (hbody cdv)
theorem ok3 {x qual : Str} {st : Stmt} {f : Addr} {fd : FuncData} {N ps : List Str} {k : Nat} {sp : Sp} {rd : TS} (mono : Mono sp) (F : Fun K x qual st f fd) (Sc : FnScope N ps (defScope st)) (len : ∀ ws G Q E, sp ws G Q E → ws.length = ps.length)
    (term : ∀ (cdv : Value) (A : Around) (outer : List Env) (s : Shared) (H : Hp) (E : XK), Room k (A.deeper (envOfC qual (defScope st) s.heap.objs.size f cdv)) → PSs3 (cxOf (CXM P w) P w K mg base N qual (defScope st) f cdv A outer s H E) (defBody st) rd)
    (vc : ∀ ws G Q E, Fgt Q E → sp ws G Q E → rd { nx := fun _ G' => Q .non G', rt := Q, ex := fun _ => E } (startF N.length ws) G) : Ok3 P w K mg base (k + 1) f fd ps sp := by
  refine okM F Sc (fun vs H Q E h => ?_) fun cdv A outer s H vs Q E hr h => ?_
  · obtain ⟨ws, G, Q3, E3, rl, _, h, _, _⟩ := h
    exact rl.length.symm.trans (len _ _ _ _ h)
  · obtain ⟨ws, G, Q3, E3, rl, rr, h, k1, k2⟩ := h
    let X := cxOf (CXM P w) P w K mg base N qual (defScope st) f cdv A outer s H E
    -- the widest ends
    let Qw : QV := fun w' G' => ∀ v H', Ext K H H' → Rel K H' G' → Rep K H' w' v → Q v H'
    let Ew : XQ := fun w' es G' => ∀ d H', Rel K H' G' → exRep K H' d es → E (clsV w') d H'
    have fg : Fgt Qw Ew := ⟨fun w' G1 G2 l q v H' x r rv => q v H' x (r.forget l) rv, fun w' es G1 G2 l q d H' r e => q d H' (r.forget l) e⟩
    have tk : TakesE X ⟨fun _ => Ew, H⟩ := by
      refine tkM_imp (tkM_of (X := X) (E := E) rfl rfl rfl rfl) fun c d σ' H' z => ?_
      obtain ⟨γ, G', w', es, _, r, rfl, ex, q⟩ := z
      exact q d H' r ex
    obtain ⟨t, p, q⟩ := term cdv A outer s H E hr ⟨fun _ => Ew, H⟩ tk
    refine ⟨t, p, q _ { nx := fun _ G' => Qw .non G', rt := Qw, ex := fun _ => Ew } _ _ (startF N.length ws) G rfl ⟨fun σ' H' γ' G' x _ r z => z .non H' x r rnon, fun v H' w' G' x r rv z => z v H' x r rv, fun _ _ _ _ _ _ _ z => z.elim, fun _ _ _ _ _ _ _ z => z.elim⟩ ?_ rr ?_⟩
    · refine ⟨?_, .refl⟩
      show RepQ K H (startF N.length ws) (L2.start N vs)
      unfold startF L2.start
      rw [rl.length]
      exact RepQ.start (n := N.length) rl _
    · exact vc ws G Qw Ew fg (mono _ _ _ _ _ _ (fun w' G' z v H' x r rv => k1 v H' w' G' x r rv z) (fun w' es G' z d H' r ex => k2 d H' w' es G' r ex z) h)
end
end L3

end
section
/-! L3SndF: what the package wants more: constants, all, repr, zip, replace. -/
namespace L3
open PySem PySem.Spec PyProof.Rows L2 CwR
section
variable {X : Cx} {pos : Pos}
theorem ps3_never {st : Stmt} : PS3 X st sNever := fun E tk => ⟨_, ps_never, fun D D3 σ H γ G he ho hs hr h3 => h3.elim⟩
theorem pss3_never {st : List Stmt} : PSs3 X st sNever := fun E tk => ⟨_, pss_never, fun D D3 σ H γ G he ho hs hr h3 => h3.elim⟩
theorem pe3_never {e : Expr} : PE3 X e eNever := fun E tk => ⟨fun _ _ _ => False, ⟨fun _ _ _ _ _ _ h => h.elim⟩, fun σ H γ G Q3 Q hs hr h3 k => h3.elim⟩
/-! ### constants of the module -/
mutual
def repB (K : Frag) : Nat → W → Value → Bool
  | _, .non, u => (match u with | .none => true | _ => false)
  | _, .bl b, u => (match u with | .bool c => b == c | _ => false)
  | _, .int i, u => (match u with | .int j _ => i == j | _ => false)
  | _, .str l, u => (match u with | .str x _ => decide (x.cps.toList = l) | _ => false)
  | n + 1, .ktp ws, u => (match u with
    | .ref a => (match K.lookup a with
      | some ⟨.type "tuple", _, .seq its _, _⟩ => decide (its.size ≤ sizeLine) && repBL K n ws its.toList
      | _ => false)
    | _ => false)
  | _, _, _ => false
def repBL (K : Frag) : Nat → List W → List Value → Bool
  | _, [], us => us.isEmpty
  | n, w :: ws, us => (match us with
    | u :: r => repB K n w u && repBL K n ws r
    | [] => false)
end
mutual
theorem repB_ok {K : Frag} : ∀ (n : Nat) (w : W) (u : Value), repB K n w u = true → ∃ v, RelV v u ∧ ∀ H, Rep K H w v
  | n, .non, u, h => by
    cases u <;> (try (unfold repB at h; cases h; done))
    exact ⟨.non, rfl, fun H => by simp only [Rep]⟩
  | n, .bl b, u, h => by
    cases u <;> (try (unfold repB at h; cases h; done))
    unfold repB at h
    exact ⟨.bl b, by rw [eq_of_beq h]; rfl, fun H => by simp only [Rep]⟩
  | n, .int b, u, h => by
    cases u <;> (try (unfold repB at h; cases h; done))
    unfold repB at h
    exact ⟨.int b, ⟨_, by rw [eq_of_beq h]⟩, fun H => by simp only [Rep]⟩
  | n, .str l, u, h => by
    cases u <;> (try (unfold repB at h; cases h; done))
    unfold repB at h
    rename_i x t
    have e := of_decide_eq_true h
    refine ⟨.str x, ⟨_, rfl⟩, fun H => ?_⟩
    simp only [Rep]
    rw [← e]
  | n + 1, .ktp ws, u, h => by
    cases u <;> (try (unfold repB at h; cases h; done))
    rename_i a
    unfold repB at h
    simp only at h
    · split at h
      · rename_i od its m sl e
        rw [Bool.and_eq_true] at h
        obtain ⟨vs, h1, h2⟩ := repBL_ok n ws its.toList h.2
        refine ⟨.ref a, rfl, fun H => ?_⟩
        simp only [Rep]
        exact ⟨a, vs, rfl, .inr ⟨_, its, m, e, rfl, rfl, of_decide_eq_true h.1, h1⟩, h2 H⟩
      · cases h
  | 0, .ktp ws, u, h => by unfold repB at h; cases h
  | n, .tup ws, u, h => by unfold repB at h; cases h
  | n, .ref _, u, h => by unfold repB at h; cases h
  | n, .ty _, u, h => by unfold repB at h; cases h
  | n, .kl _, u, h => by unfold repB at h; cases h
theorem repBL_ok {K : Frag} : ∀ (n : Nat) (ws : List W) (us : List Value), repBL K n ws us = true → ∃ vs, Vals vs us ∧ ∀ H, RepL K H ws vs
  | n, [], us, h => by
    unfold repBL at h
    cases us with
    | nil => exact ⟨[], .nil, fun H => .nil⟩
    | cons _ _ => cases h
  | n, w :: ws, us, h => by
    unfold repBL at h
    cases us with
    | nil => cases h
    | cons u r =>
      simp only [Bool.and_eq_true] at h
      obtain ⟨v, h1, h2⟩ := repB_ok n w u h.1
      obtain ⟨vs, h3, h4⟩ := repBL_ok n ws r h.2
      exact ⟨v :: vs, .cons h1 h3, fun H => .cons (h2 H) (h4 H)⟩
end
/-- a constant of the module stands there -/
def Kst (K : Frag) (mg : Str → Option Value) (x : Str) (w : W) : Prop := ∃ u, mg x = some u ∧ ∃ v, RelV v u ∧ ∀ H, Rep K H w v
theorem kst_of {K : Frag} {h : Heap} {mg : Str → Option Value} {x : Str} {w : W} {u : Value} (hK : K.In h) (hN : h.Ns mainGlobals mg) (e : PySem.W.nsIn K mainGlobals x = some (some u)) (b : repB K 60 w u = true) : Kst K mg x w :=
  ⟨u, PySem.W.mg_of hK hN e, repB_ok _ _ _ b⟩
theorem pe3_kst {x : Str} {w : W} (hk : Kst X.K X.mg x w) (hg : Gl X x) (hd : (x == ("__debug__" : Str)) = false := by decide) : PE3 X (.Name x pos) (eC w) := by
  obtain ⟨u, h1, v, h2, h3⟩ := hk
  exact pe3_c (v := v) ⟨fun pins s σ H Q I h => ld_glob I hg h1 ⟨v, H, I, h2, h⟩ hd⟩ h3
/-! ### all, any, repr -/
theorem bls_of : ∀ {ws : List W} {bs : List Bool}, blsW ws = some bs → ws = bs.map W.bl
  | [], bs, h => by cases h; rfl
  | .bl i :: r, bs, h => by
    simp only [blsW] at h
    cases e : blsW r with
    | none => rw [e] at h; cases h
    | some zs => rw [e] at h; cases h; rw [bls_of e]; rfl
  | .non :: _, _, h => by cases h
  | .int _ :: _, _, h => by cases h
  | .str _ :: _, _, h => by cases h
  | .ref _ :: _, _, h => by cases h
  | .ty _ :: _, _, h => by cases h
  | .tup _ :: _, _, h => by cases h
  | .kl _ :: _, _, h => by cases h
  | .ktp _ :: _, _, h => by cases h
theorem bls_sql {H : Hp} {G : Gh} {a : Addr} {t : List W} {bs : List Bool} (r : Rel X.K H G) (e : G a = some (.lst t)) (q : blsW t = some bs) : SqL X.K H a (bs.map V.bl) := by
  obtain ⟨xs, s1, s2⟩ := r.lst e
  rw [bls_of q] at s2
  rw [RepL.bools s2] at s1
  exact .inl (.inl s1)
theorem b_all (hc : X.calm = true) : CallR3 X (.builtin "all") bAll := by
  refine ⟨_, cr_all hc, fun ws vs H G Q3 Q r rv h k => ?_⟩
  simp only [bAll] at h
  split at h
  · obtain ⟨v, rfl, e⟩ := repl1 rv
    rw [rep_ref1 e]
    split at h
    · rename_i t eq
      split at h
      · rename_i bs q
        exact ⟨_, bs, rfl, bls_sql r eq q, k _ H _ G .refl r rbl h⟩
      · exact h.elim
    · exact h.elim
  · exact h.elim
theorem b_any (hc : X.calm = true) : CallR3 X (.builtin "any") bAny := by
  refine ⟨_, cr_any hc, fun ws vs H G Q3 Q r rv h k => ?_⟩
  simp only [bAny] at h
  split at h
  · obtain ⟨v, rfl, e⟩ := repl1 rv
    rw [rep_ref1 e]
    split at h
    · rename_i t eq
      split at h
      · rename_i bs q
        exact ⟨_, bs, rfl, bls_sql r eq q, k _ H _ G .refl r rbl h⟩
      · exact h.elim
    · exact h.elim
  · exact h.elim
theorem call_repr_bl : CallR X (.builtin "repr") (fun xs H Q => ∃ b : Bool, xs = [.bl b] ∧ Q (.str (if b then "True" else "False")) H) := by
  intro pins s σ H xs us Q I r h
  obtain ⟨b, rfl, q⟩ := h
  obtain ⟨u, rfl, e⟩ := vals1 r
  cases e
  exact PySem.P.repr_of_bool ⟨.str _, H, I.tok _, ⟨_, rfl⟩, q⟩
theorem b_repr : CallR3 X (.builtin "repr") bRepr := by
  refine ⟨_, call_repr_bl, fun ws vs H G Q3 Q r rv h k => ?_⟩
  simp only [bRepr] at h
  split at h
  · rename_i b
    obtain ⟨v, rfl, e⟩ := repl1 rv
    rw [rep_bl e]
    refine ⟨b, rfl, k _ H _ G .refl r ?_ h⟩
    cases b <;> (simp only [Rep]; rfl)
  · exact h.elim
/-! ### zip of two lists -/
theorem seq_items {K : Frag} {H : Hp} {G : Gh} {a : Addr} {ws : List W} (r : Rel K H G) (e : items (.ref a) G = some ws) : ∃ xs, SqL K H a xs ∧ RepL K H ws xs := by
  simp only [items] at e
  cases q : G a with
  | none => rw [q] at e; cases e
  | some o =>
    rw [q] at e
    cases o with
    | lst t => cases e; exact r.seq (.inl q)
    | rdl t => cases e; exact r.seq (.inr q)
    | _ => cases e
theorem simIt_zip {K : Frag} {H0 : Hp} {a b : Addr} : SimIt K H0 (Itz K a b) (zitems (.ref a) (.ref b)) := by
  intro i H G all x r e
  unfold zitems at e
  cases e1 : items (.ref a) G with
  | none => rw [e1] at e; cases e
  | some xs =>
    cases e2 : items (.ref b) G with
    | none => rw [e1, e2] at e; cases e
    | some ys =>
      rw [e1, e2] at e
      cases e
      obtain ⟨vs, s1, s2⟩ := seq_items r e1
      obtain ⟨us, t1, t2⟩ := seq_items r e2
      refine ⟨fun w ew => ?_, fun hl => ⟨vs, us, s1, t1, ?_⟩⟩
      · rw [List.getElem?_zipWith] at ew
        cases q1 : xs[i]? with
        | none => rw [q1] at ew; cases ew
        | some wx =>
          cases q2 : ys[i]? with
          | none => rw [q1, q2] at ew; cases ew
          | some wy =>
            rw [q1, q2] at ew
            cases ew
            obtain ⟨vx, g1, g2⟩ := s2.get q1
            obtain ⟨vy, g3, g4⟩ := t2.get q2
            refine ⟨⟨vs, us, vx, vy, s1, t1, g1, g3⟩, fun z H' hy => ?_⟩
            obtain ⟨T, x', y', rfl, hT, rfl, f1, f2⟩ := hy
            have ex : x' = vx := Option.some.inj ((f1 vs s1).symm.trans g1)
            have ey : y' = vy := Option.some.inj ((f2 us t1).symm.trans g3)
            subst ex ey
            refine ⟨.new hT, r.hid hT, ?_⟩
            simp only [Rep]
            exact ⟨T, _, rfl, upd_same, .cons (g2.ext (.new hT)) (.one (g4.ext (.new hT)))⟩
      · rw [List.length_zipWith, s2.length, t2.length] at hl
        omega
theorem pi3_zip {a b : Expr} {ta : TA} {p tpos : Pos} {elts : List Expr} {kk : Nat} (hg : Gl X "zip") (hm : X.mg "zip" = none) (ha : PA3 X [a, b] ta) (hs : starEach [a, b] X.env = (false, eval a X.env) :: starEach [b] X.env := by rfl)
    (hpl : (backTo pos (starEach [b] X.env)).any (·.1) = false := by rfl) : PI3 X (.Tuple elts kk tpos) (.Call (.Name "zip" p) [a, b] [] pos) (iZip ta) := fun E tk => by
  obtain ⟨t, p1, q⟩ := ha E tk
  refine ⟨_, pi_zip hg hm p1 hs hpl, fun σ H γ G R3 R hs hr h3 k => ?_⟩
  refine q σ H γ G _ _ hs hr h3 fun vs H1 ws G1 x1 r1 rv h3 => ?_
  split at h3
  · obtain ⟨v, u, rfl, r1v, ru⟩ := repl2 rv
    rw [rep_ref1 r1v, rep_ref1 ru]
    rename_i p q
    have hz := h3.1
    unfold zitems at hz
    cases e1 : items (.ref p) G1 with
    | none => rw [e1] at hz; cases hz
    | some xs =>
      cases e2 : items (.ref q) G1 with
      | none => rw [e1, e2] at hz; cases hz
      | some ys =>
        obtain ⟨vs, s1, _⟩ := seq_items r1 e1
        obtain ⟨us, t1, _⟩ := seq_items r1 e2
        exact ⟨p, q, vs, us, rfl, s1, t1, k _ _ H1 G1 x1 r1 simIt_zip h3.2⟩
  · exact h3.elim
/-! ### replace, behind a token -/
def PE3T (X : Cx) (e : Expr) (t3 : TE) : Prop := ∀ E : EX, TakesE X E → ∃ t, PET X e t ∧ SimE X.K E.h0 t fun γ G Q => t3 γ G (E γ) Q
def PS3T (X : Cx) (st : Stmt) (t3 : TS) : Prop := ∀ E : EX, TakesE X E → ∃ t, PST X st t ∧ SimS X.K E.h0 E t t3
def PSs3T (X : Cx) (st : List Stmt) (t3 : TS) : Prop := ∀ E : EX, TakesE X E → ∃ t, PSsT X st t ∧ SimS X.K E.h0 E t t3
def PTB (X : Cx) (e : Expr) (t : L2.TT) : Prop := ∀ (pins : List (Addr × Obj)) (s : Shared) (σ : St) (H : Hp) (Q : Bool → Hp → Prop), Inv X pins σ H s → t σ H Q → wpAny (model X.prog X.w) X.A (isTrue e X.env (eval e X.env)) (fun b s' => 1 ≤ s'.toks ∧ TP X pins σ Q b s') X.xe s
def PTB3 (X : Cx) (e : Expr) (t3 : TT) : Prop := ∀ E : EX, TakesE X E → ∃ t, PTB X e t ∧ SimT X.K E.h0 t fun γ G Q => t3 γ G (E γ) Q
theorem PS3T.of {st : Stmt} {t : TS} (h : PS3 X st t) : PS3T X st t := fun E tk => by
  obtain ⟨u, p, q⟩ := h E tk
  exact ⟨u, PST.of p, q⟩
theorem PSs3T.of {st : List Stmt} {t : TS} (h : PSs3 X st t) : PSs3T X st t := fun E tk => by
  obtain ⟨u, p, q⟩ := h E tk
  exact ⟨u, PSsT.of p, q⟩
theorem pss3t_one {st : Stmt} {t : TS} (h : PS3T X st t) : PSs3T X [st] t := fun E tk => by
  obtain ⟨u, p, q⟩ := h E tk
  refine ⟨_, psst_one p, fun D D3 σ H γ G he ho hs hr h3 => q _ D3 σ H γ G he ho hs hr h3⟩
/-- a test whose right side is a written number: a token is out behind it -/
theorem ptb_cmp {op : CmpOp} {r : L2.R2} {a : Expr} {ta : L2.TE} {i : Int} {j : Nat} {p pos : Pos} (ho : OpR X (compareOp op) r) (ha : PE X a ta) (hm : behindInMarks op (.Constant (.int i) j p) = false) : PTB X (.Compare a [op] [.Constant (.int i) j p] pos) (tTest (tOp r ta (tC (.int i)))) := by
  intro pins s σ H Q I h
  refine wpAny_isTrue_Compare1 (thn (ha.run pins s σ H _ I h) fun v s1 ⟨x, H1, I1, r1, q1⟩ => wpAny_Constant_int ?_) hm
  refine wpAny_mono (PySem.wpAny_toks (ho pins _ σ H1 x (.int i) v _ _ (I1.tok _) r1 ⟨_, rfl⟩ q1)) (fun c s3 q => ?_) fun _ _ z => z.2
  obtain ⟨hk, z, H3, I3, r3, k, e, q3⟩ := q
  subst e
  cases r3
  exact wpAny_truthy_bool ⟨Nat.le_trans (Nat.le_add_left 1 s1.toks) hk, H3, I3, q3⟩
theorem ptb3_cmp {op : CmpOp} {r3 : R2} {a : Expr} {ta : TE} {i : Int} {j : Nat} {p pos : Pos} (ho : OpR3 X (compareOp op) r3) (ha : PE3 X a ta) (hm : behindInMarks op (.Constant (.int i) j p) = false) : PTB3 X (.Compare a [op] [.Constant (.int i) j p] pos) (tV (eOp r3 ta (eC (.int i)))) := fun E tk => by
  obtain ⟨r, h1, h2⟩ := ho
  obtain ⟨t, p1, q1⟩ := ha E tk
  refine ⟨_, ptb_cmp h1 p1 hm, fun σ H γ G Q3 Q hs hr h3 k => ?_⟩
  refine q1 σ H γ G _ _ hs hr h3 fun v H1 w G1 x1 r1 rv h3 => ?_
  refine h2 _ _ _ _ _ _ _ _ r1 rv (by simp only [Rep]) h3 fun v3 H3 w3 G3 x3 r3 rv3 h3 => ?_
  cases w3 with
  | bl b => exact ⟨b, rep_bl rv3, k b H3 G3 (x1.trans x3) r3 h3⟩
  | _ => exact h3.elim
theorem psB_if {c : Expr} {a b : List Stmt} {tc : L2.TT} {t u : L2.TS} (hc : PTB X c tc) (ha : PSsT X a t) (hb : PSsT X b u) : PS X (.If c a b pos) (tIfS tc t u) := by
  refine ⟨fun pins s σ H D I h => ?_⟩
  refine wpAny_If (thn (hc pins s σ H _ I h) fun d s1 ⟨hk, H1, I1, q1⟩ => ?_)
  cases d with
  | true => exact ha pins s1 σ H1 D hk I1 q1
  | false => exact hb pins s1 σ H1 D hk I1 q1
theorem ps3_ifB {c : Expr} {a b : List Stmt} {tc : TT} {t u : TS} (hc : PTB3 X c tc) (ha : PSs3T X a t) (hb : PSs3T X b u) : PS3 X (.If c a b pos) (sIf tc t u) := fun E tk => by
  obtain ⟨t0, p0, q0⟩ := hc E tk
  obtain ⟨t1, p1, q1⟩ := ha E tk
  obtain ⟨t2, p2, q2⟩ := hb E tk
  refine ⟨_, psB_if p0 p1 p2, fun D D3 σ H γ G he ho hs hr h3 => ?_⟩
  have he' := he
  cases E; dsimp only at he; subst he
  refine q0 σ H γ G _ _ hs hr h3 fun b H1 G1 x1 r1 h3 => ?_
  cases b with
  | true => exact iteT (q1 D D3 σ H1 γ G1 he' (ho.ext x1) (hs.ext x1) r1 (by simpa using h3))
  | false => exact iteF (q2 D D3 σ H1 γ G1 he' (ho.ext x1) (hs.ext x1) r1 (by simpa using h3))
theorem pst_set {i : Nat} {x : Str} {e : Expr} {te : L2.TE} {pos' : Pos} (hN : X.N.Nodup) (hi : X.N[i]? = some x) (hx : Loc X.env.scope x) (he : PET X e te) (hs : swapsWith e (some (.Name x pos')) pos.line X.env = pure false := by rfl) (hf : X.fn x = true ∨ X.env.scope.names.lookup x = some .local := by first | exact .inl rfl | exact .inr rfl | assumption) :
    PST X (.Assign [.Name x pos'] e pos) (tAsg te (L2.gName i)) := by
  intro pins s σ H D ht I h
  refine wpAny_Assign_Name (thn (he pins s σ H _ ht I h) fun v s1 ⟨y, H1, I1, r1, q1⟩ => ?_) hs
  exact store_ok I1 hN hi hx r1 (fun s2 I2 => ⟨_, H1, I2, q1⟩) hf
theorem ps3t_set {i : Nat} {x : Str} {e : Expr} {te : TE} {pos' : Pos} (hN : X.N.Nodup) (hi : X.N[i]? = some x) (hx : Loc X.env.scope x) (h : PE3T X e te) (hs : swapsWith e (some (.Name x pos')) pos.line X.env = pure false := by rfl) (hf : X.fn x = true ∨ X.env.scope.names.lookup x = some .local := by first | exact .inl rfl | exact .inr rfl | assumption) :
    PS3T X (.Assign [.Name x pos'] e pos) (sSet i te) := fun E tk => by
  obtain ⟨t, p, q⟩ := h E tk
  refine ⟨_, pst_set hN hi hx p hs hf, fun D D3 σ H γ G he ho hs hr h3 => ?_⟩
  cases E; dsimp only at he; subst he
  exact q σ H γ G _ _ hs hr h3 fun v H' w G' x r rv h => ho.nx _ H' _ G' x ((hs.ext x).put rv) r h
theorem replace_S {c : Nat} (hc : c < 256) (s z : List Nat) : Txt.replace (S s) (S [c]) (S z) = S (joinN z (splitN c s)) := by
  rw [show S [c] = (⟨#[c]⟩ : Str) from rfl, StrLaws.replace_one, show (⟨#[c]⟩ : Str) = S [c] from rfl, split_eq hc, ← StrLaws.glued_eq_join]
  exact join_eqN z _
theorem pe3t_rep {o : Expr} {to : TE} {y z : Str} {c : Nat} {zl : List Nat} {j k : Nat} {c0 c1 apos pos : Pos} (ho : PE3 X o to) (ey : y = S [c] := by rfl) (ez : z = S zl := by rfl) (hyz : (y == z) = false := by decide +kernel)
    (hst : starEach [.Constant (.str y) j c0, .Constant (.str z) k c1] X.env = [(false, eval (.Constant (.str y) j c0) X.env), (false, eval (.Constant (.str z) k c1) X.env)] := by rfl)
    (hbase : attributeBase o "replace" X.env (eval o X.env) = eval o X.env := by rfl) (hline : (apos.endLine == pos.line) = true := by rfl) :
    PE3T X (.Call (.Attribute o "replace" apos) [.Constant (.str y) j c0, .Constant (.str z) k c1] [] pos) (eBm "str" mReplace to (aCons (eC (.str [c])) (aCons (eC (.str zl)) aNil))) := fun E tk => by
  obtain ⟨t, p, q⟩ := ho E tk
  refine ⟨_, pet_replC p hyz hst hbase hline, fun σ H γ G Q3 Q hs hr h3 k => ?_⟩
  refine q σ H γ G _ _ hs hr h3 fun v H1 w G1 x1 r1 rv h3 => ?_
  simp only [aCons, aNil, eC] at h3
  obtain ⟨h3, h4⟩ := h3
  cases w with
  | str l =>
    simp only [mReplace] at h4
    refine ⟨S l, rep_str1 rv, ?_, ?_⟩
    · rw [S_length, ez, S_length]; exact h4.1
    · rw [ey, ez, replace_S h4.2.1]
      exact k _ _ _ _ x1 r1 rstr h4.2.2
  | _ => exact h4.elim
theorem getD_iff {s : List Nat} {v c : Nat} (h : v < s.length) : (S s).cps.getD v 0 = c ↔ s[v]? = some c := by
  have e : (S s).cps.getD v 0 = s[v] := by simp [S, Array.getD, h]
  rw [e, List.getElem?_eq_getElem h]
  simp
theorem m_find3 : MtR3 X "str.find" mFind3 := by
  refine ⟨_, mt_find3, fun w v ws vs H G Q3 Q r rv rl h k => ?_⟩
  cases w with
  | str l =>
    simp only [mFind3] at h
    split at h
    · rename_i c i
      obtain ⟨u, u2, rfl, e, e2⟩ := repl2 rl
      rw [rep_str1 rv, rep_str1 e, rep_int1 e2]
      obtain ⟨h0, h⟩ := h
      refine ⟨S l, S [c], i, rfl, rfl, k _ H _ G .refl r rint (h _ ?_)⟩
      have hl : (S l).length = l.length := S_length l
      have hs := StrLaws.find3_spec (S l) c i
      have ef : ∀ v : Nat, fromIndex (S l).length i ≤ v ↔ i.toNat ≤ v := fun v => by
        unfold fromIndex
        rw [if_neg (by omega)]
        omega
      rcases hs with ⟨e, hn⟩ | ⟨k', e, h1, h2, h3, h4⟩
      · refine .inl ⟨e, fun v hv => ?_⟩
        by_cases hv2 : v < l.length
        · intro z
          exact hn v ((ef v).mpr hv) (by rw [hl]; exact hv2) ((getD_iff hv2).mpr z)
        · rw [List.getElem?_eq_none (by omega)]; exact fun z => nomatch z
      · rw [hl] at h2
        refine .inr ⟨k', e, (ef k').mp h1, (getD_iff h2).mp h3, fun v hv hk z => h4 v ((ef v).mpr hv) hk ((getD_iff (by omega)).mpr z)⟩
    · exact h.elim
  | _ => exact h.elim
end
end L3

end
section
/-! L3SndG: three comparisons in a row, tuple(..), rfind. -/
namespace L3
open PySem PySem.Spec PyProof.Rows L2
section
variable {X : Cx} {pos : Pos} {a b c d : Expr}
def tChain3 (r r' r'' : L2.R2) (ta tb tc td : L2.TE) : L2.TE := fun σ H Q => ta σ H fun x H1 => tb σ H1 fun y H2 => r x y H2 fun z H3 => ∃ k, z = .bl k ∧
  (if k = true then tc σ H3 fun w' H4 => r' y w' H4 fun z2 H5 => ∃ k2, z2 = .bl k2 ∧ (if k2 = true then td σ H5 fun u' H6 => r'' w' u' H6 Q else Q (.bl false) H5) else Q (.bl false) H3)
theorem pt_chain3 {op op' op'' : CmpOp} {r r' r'' : L2.R2} {ta tb tc td : L2.TE} (ho : OpR X (compareOp op) r) (ho' : OpR X (compareOp op') r') (ho'' : OpR X (compareOp op'') r'') (ha : PE X a ta) (hb : PE X b tb) (hc : PE X c tc) (hd : PE X d td)
    (hm : lastMarks [op, op', op''] [b, c, d] = false := by with_unfolding_all rfl) : PT X (.Compare a [op, op', op''] [b, c, d] pos) (tTest (tChain3 r r' r'' ta tb tc td)) := by
  refine ⟨fun pins s σ H Q I h => ?_⟩
  refine isTrue_chain (thn (ha.run pins s σ H _ I h) fun v s1 ⟨x, H1, I1, r1, q1⟩ => test_link (thn (hb.run pins s1 σ H1 _ I1 q1) fun u s2 ⟨y, H2, I2, r2, q2⟩ =>
    thn (ho pins s2 σ H2 x y v u _ I2 r1 r2 q2) fun d s3 ⟨z, H3, I3, r3, k, e, q3⟩ => ?_)) hm
  subst e
  cases r3
  refine wpAny_truthy_bool ?_
  cases k with
  | false =>
    obtain ⟨k', e', q'⟩ := q3
    cases e'
    exact ite_ff ⟨H3, I3, q'⟩
  | true =>
    refine ite_tt (test_link (thn (hc.run pins s3 σ H3 _ I3 q3) fun w' s4 ⟨z', H4, I4, r4, q4⟩ => thn (ho' pins s4 σ H4 y z' u w' _ I4 r2 r4 q4) fun d' s5 ⟨z2, H5, I5, r5, k2, e2, q5⟩ => ?_))
    subst e2
    cases r5
    refine wpAny_truthy_bool ?_
    cases k2 with
    | false =>
      obtain ⟨k', e', q'⟩ := q5
      cases e'
      exact ite_ff ⟨H5, I5, q'⟩
    | true =>
      refine ite_tt (test_last (thn (hd.run pins s5 σ H5 _ I5 q5) fun u' s6 ⟨z6, H6, I6, r6, q6⟩ => thn (ho'' pins s6 σ H6 z' z6 w' u' _ I6 r4 r6 q6) fun d2 s7 ⟨z7, H7, I7, r7, k3, e3, q7⟩ => ?_))
      subst e3
      cases r7
      exact wpAny_truthy_bool ⟨H7, I7, q7⟩
theorem pt3_ch3 {op op' op'' : CmpOp} {r3 r3' r3'' : R2} {ta tb tc td : TE} (ho : OpR3 X (compareOp op) r3) (ho' : OpR3 X (compareOp op') r3') (ho'' : OpR3 X (compareOp op'') r3'') (ha : PE3 X a ta) (hb : PE3 X b tb) (hc : PE3 X c tc) (hd : PE3 X d td)
    (hm : lastMarks [op, op', op''] [b, c, d] = false := by with_unfolding_all rfl) : PT3 X (.Compare a [op, op', op''] [b, c, d] pos) (tV (eCh3 r3 r3' r3'' ta tb tc td)) := fun E tk => by
  obtain ⟨r, h1, h2⟩ := ho
  obtain ⟨r', h1', h2'⟩ := ho'
  obtain ⟨r'', h1'', h2''⟩ := ho''
  obtain ⟨t, p1, q1⟩ := ha E tk
  obtain ⟨u, p2, q2⟩ := hb E tk
  obtain ⟨z, p3, q3⟩ := hc E tk
  obtain ⟨y, p4, q4⟩ := hd E tk
  refine ⟨_, pt_chain3 h1 h1' h1'' p1 p2 p3 p4 hm, fun σ H γ G Q3 Q hs hr h3 k => ?_⟩
  simp only [tV, eCh3] at h3
  refine q1 σ H γ G _ _ hs hr h3 fun v H1 w G1 x1 r1 rv h3 => ?_
  refine q2 σ H1 γ G1 _ _ (hs.ext x1) r1 h3 fun v2 H2 w2 G2 x2 r2 rv2 h3 => ?_
  refine h2 _ _ _ _ _ _ _ _ r2 (rv.ext x2) rv2 h3 fun v3 H3 w3 G3 x3 r3 rv3 h3 => ?_
  cases w3 with
  | bl b =>
    refine ⟨b, rep_bl rv3, ?_⟩
    cases b with
    | false => exact iteF ⟨false, rfl, k _ H3 G3 ((x1.trans x2).trans x3) r3 h3⟩
    | true =>
      refine iteT (q3 σ H3 γ G3 _ _ (hs.ext ((x1.trans x2).trans x3)) r3 h3 fun v4 H4 w4 G4 x4 r4 rv4 h3 => ?_)
      refine h2' _ _ _ _ _ _ _ _ r4 (rv2.ext (x3.trans x4)) rv4 h3 fun v5 H5 w5 G5 x5 r5 rv5 h3 => ?_
      cases w5 with
      | bl b2 =>
        refine ⟨b2, rep_bl rv5, ?_⟩
        cases b2 with
        | false => exact iteF ⟨false, rfl, k _ H5 G5 (((x1.trans x2).trans x3).trans (x4.trans x5)) r5 h3⟩
        | true =>
          refine iteT (q4 σ H5 γ G5 _ _ (hs.ext (((x1.trans x2).trans x3).trans (x4.trans x5))) r5 h3 fun v6 H6 w6 G6 x6 r6 rv6 h3 => ?_)
          refine h2'' _ _ _ _ _ _ _ _ r6 (rv4.ext (x5.trans x6)) rv6 h3 fun v7 H7 w7 G7 x7 r7 rv7 h3 => ?_
          cases w7 with
          | bl b3 => exact ⟨b3, rep_bl rv7, k b3 H7 G7 ((((x1.trans x2).trans x3).trans (x4.trans x5)).trans (x6.trans x7)) r7 h3⟩
          | _ => exact h3.elim
      | _ => exact h3.elim
  | _ => exact h3.elim
theorem b_tuple : CallR3 X (.type "tuple") bTuple := by
  refine ⟨_, call_tuple_of, fun ws vs H G Q3 Q r rv h k => ?_⟩
  simp only [bTuple] at h
  split at h
  · rename_i ws
    obtain ⟨v, rfl, e⟩ := repl1 rv
    obtain ⟨p, xs, rfl, s1, s2⟩ := rep_tup e
    exact ⟨p, xs, rfl, .inr ⟨s1, k _ H _ G .refl r e h⟩⟩
  · rename_i a
    obtain ⟨v, rfl, e⟩ := repl1 rv
    rw [rep_ref1 e]
    split at h
    · rename_i t eq
      obtain ⟨xs, s1, s2⟩ := r.lst eq
      refine ⟨_, xs, rfl, .inl ⟨.inl (.inl s1), fun l hl => ?_⟩⟩
      refine k _ _ _ G (.new hl) (r.hid hl) ?_ h
      simp only [Rep]
      exact ⟨l, xs, rfl, upd_same, s2.ext (.new hl)⟩
    · exact h.elim
  · exact h.elim
theorem at_one {l : List Nat} {c i : Nat} : StrLaws.At (S l) (S [c]) (S l).length i ↔ l[i]? = some c := by
  unfold StrLaws.At
  have := StrLaws.subAt_one (S l) c i
  rw [S_toList] at this
  exact this
theorem m_rfind : MtR3 X "str.rfind" mRfind := by
  refine ⟨_, mt_rfind, fun w v ws vs H G Q3 Q r rv rl h k => ?_⟩
  cases w with
  | str l =>
    simp only [mRfind] at h
    split at h
    · rename_i c
      obtain ⟨u, rfl, e⟩ := repl1 rl
      rw [rep_str1 rv, rep_str1 e]
      refine ⟨S l, S [c], rfl, rfl, k _ H _ G .refl r rint (h _ ?_)⟩
      unfold Txt.rfind
      rcases StrLaws.last_spec (S l) (S [c]) with ⟨e, hn⟩ | ⟨i, e, h1, h2⟩
      · rw [e]
        exact .inl ⟨rfl, fun v z => hn v (at_one.mpr z)⟩
      · rw [e]
        exact .inr ⟨i, rfl, at_one.mp h1, fun v hv z => h2 v hv (at_one.mpr z)⟩
    · exact h.elim
  | _ => exact h.elim
end
end L3

end
section
/-! L3SndH: raise of a class of the program, try .. except of one class. -/
namespace L3
open PySem PySem.Spec PyProof.Rows L2
/-- what is known of a class of the program whose instances are raised -/
structure ExCls (K : Frag) (mg : Str → Option Value) (x : Str) (C : Addr) (B newId initId : String) (bm : List Value) : Prop where
  base : ExcBaseFacts B newId initId bm
  exc : PySem.W.excIn K C bm newId = true
  mgC : mg x = some (.ref C)
  kp : PySem.W.keepIn K (.ref C) = true
  sub : PySem.W.subIn K (.ref C) (.type "BaseException") = some true
  ty : PySem.W.typeIn K (.ref C) = some (.type "type")
  te : PySem.W.exmOne K (.ref C) (.ref C) = some true
section
variable {X : Cx} {pos : Pos}
theorem ps3_raise {x m : Str} {C : Addr} {B newId initId : String} {bm : List Value} {j : Nat} {p p2 cpos : Pos} (c : ExCls X.K X.mg x C B newId initId bm) (hc : X.calm = true) (hg : Gl X x) (hdb : (x == ("__debug__" : Str)) = false := by decide) :
    PS3 X (.Raise (some (.Call (.Name x p) [.Constant (.str m) j p2] [] cpos)) none pos) (sThrow C) := fun E tk => by
  refine ⟨_, ps_raiseM hc tk c.base c.exc c.mgC c.kp (raises_own c.sub c.ty) hg hdb, fun D D3 σ H γ G he ho hs hr h3 => ?_⟩
  refine ⟨γ, G, .ref C, [], hs, hr, rfl, .inl ⟨rfl, rfl⟩, ?_⟩
  rw [← he]
  exact h3
theorem ps3_try {x : Str} {C : Addr} {B newId initId : String} {bm : List Value} {body suite : List Stmt} {b₀ : Stmt} {np pos' : Pos} {tb th : TS} (c : ExCls X.K X.mg x C B newId initId bm) (hs : X.stack = X.env :: X.outer) (hf : X.env.frame = some X.env.locals) (hg : Gl X x)
    (hb : ∀ pn xe, PassesOwn (model X.prog X.w) X.A X.env xe → PSs3 (X.tr pn xe) body tb) (hh : ∀ a pn, HotM (X.suite a pn) → PSs3 (X.suite a pn) (b₀ :: suite) th) (hdb : (x == ("__debug__" : Str)) = false := by decide) :
    PS3 X (.Try body [.ExceptHandler (some (.Name x np)) none (b₀ :: suite) pos'] [] [] pos) (sTry C tb th) := fun E tk => by
  -- the widest readings of the body and of the suite
  let wb : WX → L2.TS := fun W D σ H => ∃ γ G D3, (∀ cls d σ' H', Ext X.K H H' → lowX X.K ⟨D3.ex, H⟩ cls d σ' H' → W cls d σ' H') ∧ EndsOk X.K H H D3 D ∧ RepS X.K H H γ σ ∧ Rel X.K H G ∧ tb D3 γ G
  let ws : Addr → Value → Option Addr → L2.TS := fun _ _ _ D σ H => ∃ Z0 γ G D3, EndsOk X.K Z0 H D3 D ∧ RepS X.K Z0 H γ σ ∧ Rel X.K H G ∧ th { D3 with ex := fun _ => X0 } γ G
  refine ⟨_, ps_tryM (c := .ref C) (tb := wb) (ts := ws) hs hf ⟨hg, hdb, .inl c.mgC⟩ tk (fun W pn xe tkW hp => ⟨fun pins s σ H D I hw => ?_⟩) (fun a oe cls d pn _ _ hot => ⟨fun pins s σ H D I hw => ?_⟩), fun D D3 σ H γ G he ho hsg hr h3 => ?_⟩
  · obtain ⟨γ, G, D3, hle, hends, hr1, hr2, h3⟩ := hw
    have tk' : TakesE (X.tr pn xe) ⟨D3.ex, H⟩ := tkM_imp tkW fun cls d σ' H' z => by
      obtain ⟨γ', G', w, es, q1, q2, q3, q4, q5⟩ := z
      exact hle cls d σ' H' q1.x ⟨γ', G', w, es, q1, q2, q3, q4, q5⟩
    obtain ⟨t, p, q⟩ := hb pn xe hp ⟨D3.ex, H⟩ tk'
    exact p.run pins s σ H D I (q D D3 σ H γ G rfl hends hr1 hr2 h3)
  · obtain ⟨Z0, γ, G, D3, hends, hr1, hr2, h3⟩ := hw
    obtain ⟨t, p, q⟩ := hh a ((a, oe) :: pn) hot ⟨fun _ => X0, Z0⟩ (takes0E Z0)
    exact p.run pins s σ H D I (q D { D3 with ex := fun _ => X0 } σ H γ G rfl ⟨hends.nx, hends.rt, hends.bk, hends.ct⟩ hr1 hr2 h3)
  · refine ⟨γ, G, { D3 with ex := fun γ' w es G' => (match w with | .ref c => c = C ∧ es = [] ∧ th { D3 with ex := fun _ => X0 } γ' G' | _ => False) }, fun cls d σ' H' x' z => ?_, ?_, ⟨hsg.f, .refl⟩, hr, h3⟩
    · obtain ⟨γ', G', w, es, q1, q2, q3, q4, q5⟩ := z
      simp only at q5
      split at q5
      · obtain ⟨rfl, rfl, q5⟩ := q5
        cases q3
        refine ⟨true, c.te, fun _ a _ => ⟨E.h0, γ', G', D3, ho.ext x', ⟨q1.f, hsg.x.trans x'⟩, q2, q5⟩, fun z => nomatch z⟩
      · exact q5.elim
    · exact ⟨fun σ' H' γ' G' y r q z => ho.nx σ' H' γ' G' y ⟨r.f, hsg.x.trans y⟩ q z, ho.rt, fun σ' H' γ' G' y r q z => ho.bk σ' H' γ' G' y ⟨r.f, hsg.x.trans y⟩ q z, fun σ' H' γ' G' y r q z => ho.ct σ' H' γ' G' y ⟨r.f, hsg.x.trans y⟩ q z⟩
end
end L3

end
section
/-! L3SndI: instances: fields, methods, making; calls of what a slot holds. -/
namespace L3
open PySem PySem.Spec PyProof.Rows L2
section
variable {K : Frag} {H : Hp}
theorem repF_get : ∀ {ns : List (List Nat)} {ws : List W} {fs : List (Str × V)} {i : Nat} {n : List Nat} {w : W}, fs.map (·.1) = (ns.map S).take ws.length → RepL K H ws (fs.map (·.2)) → ns.Nodup → ns[i]? = some n → ws[i]? = some w →
    ∃ v, fs.lookup (S n) = some v ∧ Rep K H w v
  | [], ws, fs, i, n, w, _, _, _, e, _ => by simp at e
  | m :: ns, [], fs, i, n, w, _, _, _, _, e => by simp at e
  | m :: ns, u :: ws, [], i, n, w, h, _, _, _, _ => by simp at h
  | m :: ns, u :: ws, f :: fs, 0, n, w, h, r, nd, e1, e2 => by
    simp only [List.getElem?_cons_zero, Option.some.injEq] at e1 e2
    subst e1 e2
    simp only [List.map_cons, List.length_cons, List.take_succ_cons, List.cons.injEq] at h
    simp only [List.map_cons, RepL] at r
    obtain ⟨v, r', e, a, b⟩ := r
    injection e with e3 e4
    obtain ⟨x, y⟩ := f
    simp only at h e3
    refine ⟨v, ?_, a⟩
    rw [List.lookup_cons, h.1, beq_self_eq_true, ← e3]
  | m :: ns, u :: ws, f :: fs, i + 1, n, w, h, r, nd, e1, e2 => by
    simp only [List.getElem?_cons_succ] at e1 e2
    simp only [List.map_cons, List.length_cons, List.take_succ_cons, List.cons.injEq] at h
    simp only [List.map_cons, RepL] at r
    obtain ⟨v, r', e, a, b⟩ := r
    injection e with e3 e4
    subst e4
    obtain ⟨x, y⟩ := f
    simp only at h e3
    obtain ⟨v', g1, g2⟩ := repF_get h.2 b (List.nodup_cons.mp nd).2 e1 e2
    refine ⟨v', ?_, g2⟩
    rw [List.lookup_cons]
    have hne : (S n == x) = false := by
      rw [h.1]
      refine beq_eq_false_iff_ne.mpr fun z => ?_
      have := S_inj z
      subst this
      exact (List.nodup_cons.mp nd).1 (List.mem_of_getElem? e1)
    rw [hne]
    exact g1
theorem repF_no : ∀ {ns : List (List Nat)} {ws : List W} {fs : List (Str × V)} {m : Str}, fs.map (·.1) = (ns.map S).take ws.length → m ∉ ns.map S → fs.lookup m = none
  | ns, ws, [], m, h, hm => rfl
  | [], ws, f :: fs, m, h, hm => by simp at h
  | n :: ns, [], f :: fs, m, h, hm => by simp at h
  | n :: ns, u :: ws, f :: fs, m, h, hm => by
    simp only [List.map_cons, List.length_cons, List.take_succ_cons, List.cons.injEq] at h
    obtain ⟨x, y⟩ := f
    simp only at h
    simp only [List.map_cons, List.mem_cons, not_or] at hm
    rw [List.lookup_cons]
    have hne : (m == x) = false := beq_eq_false_iff_ne.mpr (by rw [h.1]; exact hm.1)
    rw [hne]
    exact repF_no h.2 hm.2
theorem repF_set : ∀ {ns : List (List Nat)} {ws ws' : List W} {fs : List (Str × V)} {i : Nat} {n : List Nat} {w : W} {v : V}, fs.map (·.1) = (ns.map S).take ws.length → RepL K H ws (fs.map (·.2)) → ns.Nodup → ns[i]? = some n → setF ws i w = some ws' → Rep K H w v →
    (putF (S n) v fs).map (·.1) = (ns.map S).take ws'.length ∧ RepL K H ws' ((putF (S n) v fs).map (·.2)) ∧ ws'.length ≤ ns.length ∨ ws.length > ns.length
  | [], ws, ws', fs, i, n, w, v, _, _, _, e, _, _ => by simp at e
  | m :: ns, [], ws', [], 0, n, w, v, h, r, nd, e1, e2, rw' => by
    simp only [List.getElem?_cons_zero, Option.some.injEq] at e1
    subst e1
    simp only [setF_nil, Option.some.injEq] at e2
    subst e2
    exact .inl ⟨by simp [putF], by simp only [putF, List.map_cons, List.map_nil]; exact .one rw', by simp⟩
  | m :: ns, [], ws', f :: fs, i, n, w, v, h, r, nd, e1, e2, rw' => by simp at h
  | m :: ns, [], ws', [], i + 1, n, w, v, h, r, nd, e1, e2, rw' => by simp [setF] at e2
  | m :: ns, u :: ws, ws', [], i, n, w, v, h, r, nd, e1, e2, rw' => by simp at h
  | m :: ns, u :: ws, ws', f :: fs, 0, n, w, v, h, r, nd, e1, e2, rw' => by
    simp only [List.getElem?_cons_zero, Option.some.injEq] at e1
    subst e1
    simp only [setF_zero, Option.some.injEq] at e2
    subst e2
    simp only [List.map_cons, List.length_cons, List.take_succ_cons, List.cons.injEq] at h
    simp only [List.map_cons, RepL] at r
    obtain ⟨v', r', e, a, b⟩ := r
    injection e with e3 e4
    subst e4
    obtain ⟨x, y⟩ := f
    simp only at h e3
    by_cases hl : (u :: ws).length > (m :: ns).length
    · exact .inr hl
    · refine .inl ⟨?_, ?_, by simp at hl ⊢; omega⟩
      · unfold putF
        rw [if_pos h.1]
        simp only [List.map_cons, List.length_cons, List.take_succ_cons, h.1, h.2]
      · unfold putF
        rw [if_pos h.1]
        exact .cons rw' b
  | m :: ns, u :: ws, ws', f :: fs, i + 1, n, w, v, h, r, nd, e1, e2, rw' => by
    simp only [List.getElem?_cons_succ] at e1
    simp only [setF_succ, Option.map_eq_some_iff] at e2
    obtain ⟨ws2, e2, rfl⟩ := e2
    simp only [List.map_cons, List.length_cons, List.take_succ_cons, List.cons.injEq] at h
    simp only [List.map_cons, RepL] at r
    obtain ⟨v', r', e, a, b⟩ := r
    injection e with e3 e4
    subst e4
    obtain ⟨x, y⟩ := f
    simp only at h e3
    have hne : ¬ (x = S n) := by
      rw [h.1]
      intro z
      have := S_inj z
      subst this
      exact (List.nodup_cons.mp nd).1 (List.mem_of_getElem? e1)
    rcases repF_set h.2 b (List.nodup_cons.mp nd).2 e1 e2 rw' with ⟨g1, g2, g3⟩ | g
    · refine .inl ⟨?_, ?_, by simp; omega⟩
      · unfold putF
        rw [if_neg hne]
        simp only [List.map_cons, List.length_cons, List.take_succ_cons, h.1, g1]
      · unfold putF
        rw [if_neg hne]
        simp only [List.map_cons]
        exact .cons (by rw [e3]; exact a) g2
    · exact .inr (by simp at g ⊢; omega)
end
theorem asIns_ok {K : Frag} {H : Hp} {G : Gh} {C : Addr} {ns : List (List Nat)} {x : W} {v : V} {Q : Nat → List W → Prop} (r : Rel K H G) (rv : Rep K H x v) (h : asIns C ns x G Q) :
    ∃ (p dx : Addr) (ws : List W) (fs : List (Str × V)), x = .ref p ∧ v = .ref p ∧ G p = some (.ins C ns ws) ∧ H p = some (.ins C dx fs) ∧ RepF K H ns ws fs ∧ Q p ws := by
  cases x with
  | ref p =>
    simp only [asIns] at h
    split at h
    · rename_i C' ns' ws e
      obtain ⟨rfl, rfl, h⟩ := h
      obtain ⟨dx, fs, e1, e2⟩ := r p _ e
      exact ⟨p, dx, ws, fs, rfl, rep_ref1 rv, e, e1, e2, h⟩
    · exact h.elim
  | _ => exact h.elim
section
variable {X : Cx} {e o value : Expr} {f : Str} {pos pos' tpos apos : Pos} {te to tv : TE} {C : Addr} {ns : List (List Nat)} {i : Nat} {n : List Nat}
theorem pe3_fld (c : Cls X.K C) (hn : NoAttr X.K C f) (hd : ns.Nodup) (hi : (ns[i]?).map S = some f) (he : PE3 X e te) (hb : attributeBase e f X.env (eval e X.env) = eval e X.env := by rfl) : PE3 X (.Attribute e f pos) (eFld C ns i te) := fun E tk => by
  obtain ⟨t, p, q⟩ := he E tk
  refine ⟨_, pe_fld p hb, fun σ H γ G Q3 Q hs hr h3 k => ?_⟩
  refine q σ H γ G _ _ hs hr h3 fun v H1 w G1 x1 r1 rv h3 => ?_
  obtain ⟨p, dx, ws, fs, rfl, rfl, e1, e2, ⟨f1, f2, f3, f4⟩, h3⟩ := asIns_ok r1 rv h3
  rw [nthW_eq] at h3
  cases ew : ws[i]? with
  | none => rw [ew] at h3; exact h3.elim
  | some w =>
    rw [ew] at h3
    obtain ⟨n, en, rfl⟩ := Option.map_eq_some_iff.mp hi
    obtain ⟨v, g1, g2⟩ := repF_get f1 f2 hd en ew
    exact ⟨p, C, dx, fs, v, rfl, e2, c, hn, g1, k v H1 w G1 x1 r1 g2 h3⟩
theorem few_of {K : Frag} {H : Hp} {ws : List W} {fs : List (Str × V)} (f1 : fs.map (·.1) = (ns.map S).take ws.length) (hl : ns.length < 1000) : fs.length < 1000 := by
  have := congrArg List.length f1
  simp at this
  omega
theorem ps3_fld (c : Cls X.K C) (hn : NoAttr X.K C f) (hd : ns.Nodup) (hl : ns.length < 1000) (hi : (ns[i]?).map S = some f) (ho : PE3 X o to) (hv : PE3 X value tv) (hsw : swapsWith value (some (.Attribute o f pos')) pos.line X.env = pure false := by rfl) :
    PS3 X (.Assign [.Attribute o f pos'] value pos) (sFld C ns i to tv) := fun E tk => by
  obtain ⟨t, p1, q1⟩ := hv E tk
  obtain ⟨u, p2, q2⟩ := ho E tk
  refine ⟨_, ps_fld p2 p1 hsw, fun D D3 σ H γ G hE oe hs hr h3 => ?_⟩
  cases E; dsimp only at hE; subst hE
  refine q1 σ H γ G _ _ hs hr h3 fun v H1 w G1 x1 r1 rv h3 => ?_
  refine q2 σ H1 γ G1 _ _ (hs.ext x1) r1 h3 fun v2 H2 w2 G2 x2 r2 rv2 h3 => ?_
  obtain ⟨p, dx, ws, fs, rfl, rfl, e1, e2, ⟨f1, f2, f3, f4⟩, h3⟩ := asIns_ok r2 rv2 h3
  cases ew : setF ws i w with
  | none => rw [ew] at h3; exact h3.elim
  | some ws' =>
    rw [ew] at h3
    obtain ⟨n, en, rfl⟩ := Option.map_eq_some_iff.mp hi
    have m : Mut (H2 p) := by rw [e2]; trivial
    have y := x1.trans x2
    refine ⟨p, C, dx, fs, rfl, e2, c, hn, few_of (K := X.K) (H := H2) f1 hl, ?_⟩
    rcases repF_set f1 f2 hd en ew (rv.ext x2) with ⟨g1, g2, g3⟩ | g
    · exact oe.nx σ _ γ _ (y.trans (.write m)) (hs.ext (y.trans (.write m))) (r2.write (o := .ins C ns ws') m ⟨dx, _, upd_same, g1, g2.ext (.write m), g3, hd⟩) h3
    · omega
theorem ps3_fldaug {op : Operator} {r3 : R2} (c : Cls X.K C) (hn : NoAttr X.K C f) (hd : ns.Nodup) (hl : ns.length < 1000) (hop : OpR3 X (inplaceOp op) r3) (ho : PE3 X o to) (hv : PE3 X value tv) (hi : (ns[i]?).map S = some f := by rfl) :
    PS3 X (.AugAssign (.Attribute o f tpos) op value pos) (sFldAug C ns i r3 to tv) := fun E tk => by
  obtain ⟨r, h1, h2⟩ := hop
  obtain ⟨t, p1, q1⟩ := hv E tk
  obtain ⟨u, p2, q2⟩ := ho E tk
  have hin : InOp X op r := fun pins s σ H x y u v Q I rx ry h => h1 pins s σ H x y u v Q I rx ry h
  refine ⟨_, ps_fldaug p2 p1 hin, fun D D3 σ H γ G hE oe hs hr h3 => ?_⟩
  cases E; dsimp only at hE; subst hE
  refine q2 σ H γ G _ _ hs hr h3 fun v2 H2 w2 G2 x2 r2 rv2 h3 => ?_
  obtain ⟨p, dx, ws, fs, rfl, rfl, e1, e2, ⟨f1, f2, f3, f4⟩, h3⟩ := asIns_ok r2 rv2 h3
  obtain ⟨n, en, rfl⟩ := Option.map_eq_some_iff.mp hi
  rw [nthW_eq] at h3
  cases ew : ws[i]? with
  | none => rw [ew] at h3; exact h3.elim
  | some w =>
    rw [ew] at h3
    obtain ⟨v, g1, g2⟩ := repF_get f1 f2 hd en ew
    refine ⟨p, C, dx, fs, v, rfl, e2, c, hn, g1, ?_⟩
    refine q1 σ H2 γ G2 _ _ (hs.ext x2) r2 h3 fun v3 H3 w3 G3 x3 r3' rv3 h3 => ?_
    refine h2 _ _ _ _ _ _ _ _ r3' (g2.ext x3) rv3 h3 fun v4 H4 w4 G4 x4 r4 rv4 h3 => ?_
    obtain ⟨p', dx', ws', fs', e0, _, e1', e2', ⟨f1', f2', f3', f4'⟩, h3⟩ := asIns_ok (v := .ref p) r4 (by simp only [Rep]) h3
    cases e0
    cases ew' : setF ws' i w4 with
    | none => rw [ew'] at h3; exact h3.elim
    | some ws2 =>
      rw [ew'] at h3
      have m : Mut (H4 p) := by rw [e2']; trivial
      have y := (x2.trans x3).trans x4
      refine ⟨dx', fs', e2', few_of (K := X.K) (H := H4) f1' hl, ?_⟩
      rcases repF_set f1' f2' hd en ew' rv4 with ⟨g1, g2, g3⟩ | g
      · exact oe.nx σ _ γ _ (y.trans (.write m)) (hs.ext (y.trans (.write m))) (r4.write (o := .ins C ns ws2) m ⟨dx', _, upd_same, g1, g2.ext (.write m), g3, hd⟩) h3
      · omega
end
/-! ### methods, making -/
section
variable {X : Cx} {k : Nat} {f C : Addr} {fd : FuncData} {ps : List Str} {sp : Sp} {x m : Str} {p pos apos : Pos} {e o : Expr} {es : List Expr} {te to : TE} {ta : TA} {ns : List (List Nat)} {Wx : WX}
def tMt (K : Frag) (C : Addr) (m : Str) (sp : L2.Sp) (Wx : WX) (to : L2.TE) (t : L2.TA) : L2.TE := fun σ H Q => to σ H fun x H1 => ∃ a dx fs, x = .ref a ∧ H1 a = some (.ins C dx fs) ∧ fs.lookup m = none ∧
  t σ H1 fun vs H2 => ∃ E : XK, (∀ cls d H', Ext K H2 H' → E cls d H' → Wx cls d σ H') ∧ sp (x :: vs) H2 Q E
theorem met_sim {E : EX} {to0 : L2.TE} {t : L2.TA} (hm : m ∉ ns.map S) (q1 : SimE X.K E.h0 to0 fun γ G Q => to γ G (E γ) Q) (q2 : SimA X.K E.h0 t fun γ G Q => ta γ G (E γ) Q) :
    SimE X.K E.h0 (tMt X.K C m (low X.K sp) (lowX X.K E) to0 t) fun γ G Q => eMet C ns sp to ta γ G (E γ) Q := by
  intro σ H γ G Q3 Q hs hr h3 k
  refine q1 σ H γ G _ _ hs hr h3 fun v H1 w G1 x1 r1 rv h3 => ?_
  obtain ⟨p, dx, ws, fs, rfl, rfl, e1, e2, ⟨f1, f2, f3, f4⟩, h3⟩ := asIns_ok r1 rv h3
  refine ⟨p, dx, fs, rfl, e2, repF_no f1 hm, ?_⟩
  refine q2 σ H1 γ G1 _ _ (hs.ext x1) r1 h3 fun vs H2 ws G2 x2 r2 rv2 h3 => ?_
  refine ⟨fun cls d H' => ∃ w es G', Rel X.K H' G' ∧ cls = clsV w ∧ exRep X.K H' d es ∧ E γ w es G', fun cls d H' x ⟨w, es, G', a, b, c, z⟩ => ⟨γ, G', w, es, (hs.ext (x1.trans x2)).ext x, a, b, c, z⟩, .ref p :: ws, G2, Q3, E γ, .cons rref rv2, r2, h3, fun v H' w G' x => k v H' w G' ((x1.trans x2).trans x), fun d H' w es G' a b z => ⟨w, es, G', a, rfl, b, z⟩⟩
theorem pe3_met {pl : Sem Bool} (c : Cls X.K C) (hm : Meth X.K C m f) (hno : m ∉ ns.map S) (F : Ok3 X.prog X.w X.K X.mg X.base k f fd ps sp) (hr : Room k X.A) (hb : Binds X.K fd ps []) (ho : PE3 X o to) (ha : PA3 X (e :: es) ta)
    (hst : starEach (e :: es) X.env = (false, eval e X.env) :: starEach es X.env := by rfl) (hpl : (backTo pos (starEach es X.env)).any (·.1) = false := by rfl)
    (ht : eval (.Call (.Attribute o m apos) (e :: es) [] pos) X.env = (do
      let ov ← eval o X.env
      standAt apos.atName
      let (f, first) ← holding [ov] (getMethod ov m pl)
      callWith pos f first (backTo pos (starEach (e :: es) X.env)) (backToKw pos (keywordEach [] X.env))) := by rfl) :
    PE3 X (.Call (.Attribute o m apos) (e :: es) [] pos) (eMet C ns sp to ta) := fun E tk => by
  obtain ⟨t1, p1, q1⟩ := ho E tk
  obtain ⟨t2, p2, q2⟩ := ha E tk
  refine ⟨tMt X.K C m (low X.K sp) (lowX X.K E) t1 t2, ⟨fun pins s σ H Q I h => ?_⟩, met_sim hno q1 q2⟩
  refine PySem.W.methodCall_KW (pl := pl) (thn (p1.run pins s σ H _ I h) fun u s1 ⟨x, H1, I1, rx, a, dx, fs, ex, ea, l, q⟩ => ?_) ht
  subst ex
  obtain rfl : u = Value.ref a := rx
  refine getmeth_ok I1 ea c hm l ?_
  refine PySem.W.callWith_K (first := [.ref a]) (h₀ := X.base) I.ok.mod.kin hm.kp (thn (p2.run pos pins s1 σ H1 _ I1 q) fun us s2 ⟨vs, H2, I2, r, XK', hE, q2⟩ => ⟨I2.kIn, ?_⟩) hst hpl
  exact run3 (us := .ref a :: us) (vs := .ref a :: vs) F hr hb tk hE I2 (.cons rfl r) q2
theorem pe3_met0 {pl : Sem Bool} (c : Cls X.K C) (hm : Meth X.K C m f) (hno : m ∉ ns.map S) (F : Ok3 X.prog X.w X.K X.mg X.base k f fd ps sp) (hr : Room k X.A) (hb : Binds X.K fd ps []) (ho : PE3 X o to)
    (ht : eval (.Call (.Attribute o m apos) [] [] pos) X.env = (do
      let ov ← eval o X.env
      standAt apos.atName
      let (f, first) ← holding [ov] (getMethod ov m pl)
      callWith pos f first (backTo pos (starEach [] X.env)) (backToKw pos (keywordEach [] X.env))) := by rfl) :
    PE3 X (.Call (.Attribute o m apos) [] [] pos) (eMet C ns sp to aNil) := fun E tk => by
  obtain ⟨t1, p1, q1⟩ := ho E tk
  refine ⟨tMt X.K C m (low X.K sp) (lowX X.K E) t1 tNil, ⟨fun pins s σ H Q I h => ?_⟩, met_sim hno q1 fun σ H γ G Q3 Q hs hr h3 k => k [] H [] G .refl hr .nil h3⟩
  refine PySem.W.methodCall_KW (pl := pl) (thn (p1.run pins s σ H _ I h) fun u s1 ⟨x, H1, I1, rx, a, dx, fs, ex, ea, l, q⟩ => ?_) ht
  subst ex
  obtain rfl : u = Value.ref a := rx
  refine getmeth_ok I1 ea c hm l ?_
  obtain ⟨XK', hE, q⟩ := q
  exact PySem.W.callWith_K0 (first := [.ref a]) I1.kIn hm.kp (run3 (us := [.ref a]) (vs := [.ref a]) F hr hb tk hE I1 (.cons rfl .nil) q)
/-- a call of what slot i holds -/
theorem pe3_callV {i : Nat} (F : Ok3 X.prog X.w X.K X.mg X.base k f fd ps sp) (hr : Room k X.A) (hN : X.N[i]? = some x) (hv : Vis X.env.scope x) (hk : PySem.W.keepIn X.K (.ref f) = true) (hb : Binds X.K fd ps []) (ha : PA3 X (e :: es) ta)
    (hdb : (x == ("__debug__" : Str)) = false := by decide) (hcd : (x == ("__classdict__" : Str)) = false := by decide)
    (he : starEach (e :: es) X.env = (false, eval e X.env) :: starEach es X.env := by rfl) (hpl : (backTo pos (starEach es X.env)).any (·.1) = false := by rfl) :
    PE3 X (.Call (.Name x p) (e :: es) [] pos) (eCallV f sp i ta) := fun E tk => by
  obtain ⟨t, p1, q⟩ := ha E tk
  refine ⟨fun σ H Q => σ[i]? = some (some (.ref f)) ∧ tAt X.K (low X.K sp) (lowX X.K E) t σ H Q, ⟨fun pins s σ H Q I h => ?_⟩, fun σ H γ G Q3 Q hs hr h3 k => ?_⟩
  · obtain ⟨hs, ht⟩ := h
    refine wpAny_Call_Name_kw (thn ((pe_var (pos := p) hN hv hdb hcd).run pins s σ H (fun v H1 => v = .ref f ∧ H1 = H) I ⟨.ref f, hs, rfl, rfl⟩) fun u s1 ⟨v, H1, I1, r1, q1⟩ => ?_)
    obtain ⟨rfl, rfl⟩ := q1
    cases r1
    refine PySem.W.callWith_K (h₀ := X.base) I.ok.mod.kin hk (thn (p1.run pos pins s1 σ _ _ I1 ht) fun us s2 ⟨vs, H2, I2, r, XK', hE, q2⟩ => ⟨I2.kIn, ?_⟩) he hpl
    exact run3 F hr hb tk hE I2 r q2
  · obtain ⟨eg, h3⟩ := h3
    obtain ⟨v, e1, e2⟩ := hs.get eg
    rw [rep_ref1 e2] at e1
    exact ⟨e1, at_sim q σ H γ G Q3 Q hs hr h3 k⟩
/-- the new instance is made and its __init__ runs -/
theorem run_make3 {pins : List (Addr × Obj)} {σ : St} {H : Hp} {s : Shared} {Q : VK} {us : List Value} {vs : List V} {sp : L2.Sp} (M : Mk X.K C f) (F : FnOk X.prog X.w X.K X.mg X.base (CXM X.prog X.w) k f fd ps sp) (hr : Room (k + 1) X.A) (hb : Binds X.K fd ps [])
    (I : Inv X pins σ H s) (r : Vals vs us)
    (h : ∀ x dx, H x = none → H dx = none → dx ≠ x → sp (.ref x :: vs) (upd (upd H dx (.own x)) x (.ins C dx [])) (fun v H2 => v = .non ∧ Q (.ref x) H2) (fun _ _ _ => False)) :
    wpAny (model X.prog X.w) X.A (call (.ref C) us) (EP X pins σ Q) X.xe s := by
  refine run_make M F hr hb .nil (E := fun _ _ _ => False) (fun pins σ H s e s' I z => ?_) I r (by simpa using h)
  obtain ⟨_, _, _, _, _, _, _, _, _, _, _, _, z⟩ := z
  exact z.elim
def tMk3 (C : Addr) (sp : L2.Sp) (t : L2.TA) : L2.TE := fun σ H Q => t σ H fun vs H1 => ∀ x dx, H1 x = none → H1 dx = none → dx ≠ x → sp (.ref x :: vs) (upd (upd H1 dx (.own x)) x (.ins C dx [])) (fun v H2 => v = .non ∧ Q (.ref x) H2) (fun _ _ _ => False)
theorem make_sim {E : EX} {t : L2.TA} (hd : ns.Nodup) (q : SimA X.K E.h0 t fun γ G Q => ta γ G (E γ) Q) : SimE X.K E.h0 (tMk3 C (low X.K sp) t) fun γ G Q => eMakeX C ns sp ta γ G (E γ) Q := by
  intro σ H γ G Q3 Q hs hr h3 k
  refine q σ H γ G _ _ hs hr h3 fun vs H1 ws G1 x1 r1 rv h3 => fun x dx hx hdx ne => ?_
  have y1 : Ext X.K H1 (upd H1 dx (.own x)) := .new hdx
  have hx2 : upd H1 dx (.own x) x = none := by rw [upd_ne ne.symm]; exact hx
  have y2 : Ext X.K (upd H1 dx (.own x)) (upd (upd H1 dx (.own x)) x (.ins C dx [])) := .new hx2
  have rh := (r1.hid (ho := .own x) hdx).new (ho := .ins C dx []) (o := .ins C ns []) hx2 ⟨dx, [], upd_same, by simp, .nil, by simp, hd⟩
  refine ⟨.ref x :: ws, _, fun v G2 => v = .non ∧ Q3 (.ref x) G2, X0, .cons rref (rv.ext (y1.trans y2)), rh, h3 x (r1.free hx), fun v H' w G' x' r' rv' q' => ?_, fun _ _ _ _ _ _ _ z => z.elim⟩
  obtain ⟨rfl, q'⟩ := q'
  exact ⟨rep_non1 rv', k _ H' _ G' ((x1.trans (y1.trans y2)).trans x') r' rref q'⟩
theorem pe3_make (M : Mk X.K C f) (hd : ns.Nodup) (F : Ok3 X.prog X.w X.K X.mg X.base k f fd ps sp) (hr : Room (k + 1) X.A) (hg : Gl X x) (hm : X.mg x = some (.ref C)) (hb : Binds X.K fd ps []) (ha : PA3 X (e :: es) ta)
    (hdb : (x == ("__debug__" : Str)) = false := by decide) (he : starEach (e :: es) X.env = (false, eval e X.env) :: starEach es X.env := by rfl) (hpl : (backTo pos (starEach es X.env)).any (·.1) = false := by rfl) :
    PE3 X (.Call (.Name x p) (e :: es) [] pos) (eMakeX C ns sp ta) := fun E tk => by
  obtain ⟨t, p1, q⟩ := ha E tk
  refine ⟨_, ⟨fun pins s σ H Q I h => wpAny_Call_Name_kw (ld_glob I hg hm ?_ hdb)⟩, make_sim hd q⟩
  refine PySem.W.callWith_K (h₀ := X.base) I.ok.mod.kin M.kp (thn (p1.run pos pins s σ H _ I h) fun us s1 ⟨vs, H1, I1, r, q⟩ => ⟨I1.kIn, ?_⟩) he hpl
  exact run_make3 M F hr hb I1 r q
theorem pe3_make0 (M : Mk X.K C f) (hd : ns.Nodup) (F : Ok3 X.prog X.w X.K X.mg X.base k f fd ps sp) (hr : Room (k + 1) X.A) (hg : Gl X x) (hm : X.mg x = some (.ref C)) (hb : Binds X.K fd ps [])
    (hdb : (x == ("__debug__" : Str)) = false := by decide) : PE3 X (.Call (.Name x p) [] [] pos) (eMakeX C ns sp aNil) := fun E tk => by
  refine ⟨tMk3 C (low X.K sp) tNil, ⟨fun pins s σ H Q I h => wpAny_Call_Name_kw (ld_glob I hg hm ?_ hdb)⟩, make_sim hd fun σ H γ G Q3 Q hs hr h3 k => k [] H [] G .refl hr .nil h3⟩
  exact PySem.W.callWith_K0 I.kIn M.kp (run_make3 (us := []) M F hr hb I .nil h)
end
end L3

end
section
/-! L3SndJ: dicts with keys of any kind: subscripts, in, get, pop, setdefault, list. -/
namespace L3
open PySem PySem.Spec PyProof.Rows L2
section
variable {K : Frag} {H : Hp} {κ : Type} [DecidableEq κ] {f : κ → W} {y w : W} {ky : κ} {v : V}
theorem look_repG (hk : ∀ a, keq (f a) y = decide (a = ky)) : ∀ {kvs : List (W × W)} {ks : List (κ × V)}, RepKV f K H kvs ks → (match look kvs y with | some w => ∃ v, valV ks ky = some v ∧ Rep K H w v | none => valV ks ky = none)
  | [], _, r => by cases r; rfl
  | p :: kvs, _, r => by
    obtain ⟨q, r', rfl, e, rv, rr⟩ := r
    have ih := look_repG hk rr
    unfold look
    rw [e, hk]
    by_cases h : q.1 = ky
    · rw [decide_eq_true h, if_pos rfl, valV_pos h]
      exact ⟨q.2, rfl, rv⟩
    · rw [decide_eq_false h, if_neg (by decide), valV_neg h]
      exact ih
theorem look_someG (hk : ∀ a, keq (f a) y = decide (a = ky)) {kvs : List (W × W)} {ks : List (κ × V)} (r : RepKV f K H kvs ks) (e : look kvs y = some w) : ∃ v, valV ks ky = some v ∧ Rep K H w v := by
  have h := look_repG hk r
  rw [e] at h
  exact h
theorem look_noneG (hk : ∀ a, keq (f a) y = decide (a = ky)) {kvs : List (W × W)} {ks : List (κ × V)} (r : RepKV f K H kvs ks) (e : look kvs y = none) : valV ks ky = none := by
  have h := look_repG hk r
  rw [e] at h
  exact h
theorem has_repG (hk : ∀ a, keq (f a) y = decide (a = ky)) {kvs : List (W × W)} {ks : List (κ × V)} (r : RepKV f K H kvs ks) : has kvs y = (valV ks ky).isSome := by
  unfold has
  cases e : look kvs y with
  | none => rw [look_noneG hk r e]; rfl
  | some w => obtain ⟨v, q, _⟩ := look_someG hk r e; rw [q]; rfl
theorem map_repG (hk : ∀ a, keq (f a) y = decide (a = ky)) (rw' : Rep K H w v) : ∀ {kvs : List (W × W)} {ks : List (κ × V)}, RepKV f K H kvs ks →
    RepKV f K H (kvs.map fun p => if keq p.1 y = true then (p.1, w) else p) (ks.map fun kv => if kv.1 = ky then (kv.1, v) else kv)
  | [], _, r => by cases r; rfl
  | p :: kvs, _, r => by
    obtain ⟨q, r', rfl, e, rv, rr⟩ := r
    refine ⟨_, _, rfl, ?_, ?_, map_repG hk rw' rr⟩
    · dsimp only
      rw [e, hk]
      by_cases h : q.1 = ky
      · rw [decide_eq_true h, if_pos rfl, if_pos h]
      · rw [decide_eq_false h, if_neg (by decide), if_neg h]; exact e
    · dsimp only
      rw [e, hk]
      by_cases h : q.1 = ky
      · rw [decide_eq_true h, if_pos rfl, if_pos h]; exact rw'
      · rw [decide_eq_false h, if_neg (by decide), if_neg h]; exact rv
theorem put_repG (hk : ∀ a, keq (f a) y = decide (a = ky)) (hy : y = f ky) (rw' : Rep K H w v) {kvs : List (W × W)} {ks : List (κ × V)} (r : RepKV f K H kvs ks) : RepKV f K H (putD kvs y w) (putK ks ky v) := by
  unfold putD putK
  rw [has_repG hk r, valV_any]
  split
  · exact map_repG hk rw' r
  · exact snoc_rep hy rw' r
theorem drop_repG (hk : ∀ a, keq (f a) y = decide (a = ky)) : ∀ {kvs : List (W × W)} {ks : List (κ × V)}, RepKV f K H kvs ks → RepKV f K H (dropD kvs y) (dropK ks ky)
  | [], _, r => by cases r; rfl
  | p :: kvs, _, r => by
    obtain ⟨q, r', rfl, e, rv, rr⟩ := r
    have ih := drop_repG hk rr
    unfold dropD dropK at ih ⊢
    rw [List.filter_cons, List.filter_cons, e, hk]
    by_cases h : q.1 = ky
    · rw [decide_eq_true h, if_neg (by decide), if_neg (by simp [h])]
      exact ih
    · rw [decide_eq_false h, if_pos (by decide), if_pos (by simp [h])]
      exact ⟨q, _, rfl, e, rv, ih⟩
end
/-! ### keys that are tuples -/
abbrev tkW (k : List Key) : W := .tup (k.map keyW)
def keysOf : W → List Key
  | .tup ws => ws.map keyOf
  | _ => []
theorem keq_tk {y : W} (h : keyT y = true) (a : List Key) : keq (tkW a) y = decide (a = keysOf y) := by
  cases y with
  | tup ws =>
    show keqL (a.map keyW) ws = decide (a = ws.map keyOf)
    have h' : ws.all key1 = true := h
    clear h
    induction ws generalizing a with
    | nil => cases a with
      | nil => rfl
      | cons x a => exact (decide_eq_false (fun z => nomatch z)).symm
    | cons w ws ih =>
      rw [List.all_cons, Bool.and_eq_true] at h'
      cases a with
      | nil => exact (decide_eq_false (fun z => nomatch z)).symm
      | cons x a =>
        show (keq (keyW x) w && keqL (a.map keyW) ws) = _
        rw [keq_keyW x h'.1, ih a h'.2, Bool.eq_iff_iff, Bool.and_eq_true, decide_eq_true_iff, decide_eq_true_iff, decide_eq_true_iff, List.map_cons, List.cons.injEq]
  | _ => cases h
theorem tk_keys {y : W} (h : keyT y = true) : y = tkW (keysOf y) := by
  cases y with
  | tup ws =>
    show W.tup ws = .tup ((ws.map keyOf).map keyW)
    have h' : ws.all key1 = true := h
    congr 1
    clear h
    induction ws with
    | nil => rfl
    | cons w ws ih =>
      rw [List.all_cons, Bool.and_eq_true] at h'
      rw [List.map_cons, List.map_cons, keyOf_keyW h'.1, ← ih h'.2]
  | _ => cases h
theorem rep_keys {K : Frag} {H : Hp} : ∀ {ws : List W} {vs : List V}, ws.all key1 = true → RepL K H ws vs → vs = (ws.map keyOf).map kV
  | [], _, _, r => by simp only [RepL] at r; subst r; rfl
  | w :: ws, _, h, r => by
    simp only [RepL] at r
    obtain ⟨v, r', rfl, a, b⟩ := r
    rw [List.all_cons, Bool.and_eq_true] at h
    rw [List.map_cons, List.map_cons, key_rep a h.1, rep_keys h.2 b]
theorem keyT_rep {K : Frag} {H : Hp} {y : W} {u : V} (r : Rep K H y u) (h : keyT y = true) : ∃ b, u = .ref b ∧ H b = some (.tup ((keysOf y).map kV)) := by
  cases y with
  | tup ws =>
    obtain ⟨b, xs, rfl, h1, h2⟩ := rep_tupS r
    refine ⟨b, rfl, ?_⟩
    rw [h1, rep_keys h h2]
    rfl
  | _ => cases h
/-- what a dict of G answers at a key -/
theorem dget_of {K : Frag} {H : Hp} {G : Gh} {x y : W} {v u : V} {Q : List (W × W) → Prop} (r : Rel K H G) (rv : Rep K H x v) (ru : Rep K H y u) (h : dictOf x G y Q) :
    ∃ (a : Addr) (kvs : List (W × W)) (ov : Option V), x = .ref a ∧ v = .ref a ∧ DGet H a u ov ∧ Q kvs ∧ (match look kvs y with | some w => ∃ z, ov = some z ∧ Rep K H w z | none => ov = none) := by
  cases x with
  | ref a =>
    have fin : ∀ {κ : Type} [DecidableEq κ] {f : κ → W} {ky : κ} {kvs : List (W × W)} {ks : List (κ × V)}, (∀ a, keq (f a) y = decide (a = ky)) → RepKV f K H kvs ks → (match look kvs y with | some w => ∃ z, valV ks ky = some z ∧ Rep K H w z | none => valV ks ky = none) := fun hk r => look_repG hk r
    simp only [dictOf] at h
    split at h
    · rename_i kvs e
      obtain ⟨ks, s1, s2⟩ := r a _ e
      exact ⟨a, kvs, _, rfl, rep_ref1 rv, by rw [key_rep ru h.1]; exact .inl ⟨ks, _, .inl s1, rfl, rfl⟩, h.2, fin (fun a => keq_keyW a h.1) s2⟩
    · rename_i kvs e
      obtain ⟨o, ks, s1, s2⟩ := r a _ e
      exact ⟨a, kvs, _, rfl, rep_ref1 rv, by rw [key_rep ru h.1]; exact .inl ⟨ks, _, .inr ⟨o, s1⟩, rfl, rfl⟩, h.2, fin (fun a => keq_keyW a h.1) s2⟩
    · rename_i kvs e
      obtain ⟨ks, s1, s2⟩ := r a _ e
      obtain ⟨b, rfl, hb⟩ := keyT_rep ru h.1
      exact ⟨a, kvs, _, rfl, rep_ref1 rv, .inr ⟨ks, _, b, .inl s1, rfl, hb, rfl⟩, h.2, fin (keq_tk h.1) s2⟩
    · rename_i kvs e
      obtain ⟨o, ks, s1, s2⟩ := r a _ e
      obtain ⟨b, rfl, hb⟩ := keyT_rep ru h.1
      exact ⟨a, kvs, _, rfl, rep_ref1 rv, .inr ⟨ks, _, b, .inr ⟨o, s1⟩, rfl, hb, rfl⟩, h.2, fin (keq_tk h.1) s2⟩
    · exact h.elim
  | _ => exact h.elim
/-! ### subscripts -/
section
variable {X : Cx}
def rIxD : L2.R2 := fun x y H Q => ∃ a v, x = .ref a ∧ DGet H a y (some v) ∧ Q v H
theorem ix_dict (hu : X.A.units + 1 < cLine) : IxR X rIxD := by
  intro value slice pins s σ H x y v u Q I rx ry h hs
  obtain ⟨a, z, rfl, g, q⟩ := h
  cases rx
  have h : wpAny (model X.prog X.w) X.A (getItem (.ref a) u) (EP X pins σ Q) X.xe s := d_getItem hu I g ry fun w' s3 I3 rw' => ⟨z, H, I3, rw', q⟩
  have hT := dict_typeIs I g
  unfold subscriptTail
  refine wpAny_bind ?_
  rw [getitemInPython_of_ne hT.not_modules]
  refine wpAny_bind (wpAny_specialOf hT PySem.F.slot_dict_getitem.lookup ?_)
  have fin : wpAny (model X.prog X.w) X.A (subscripted slice false (.ref a) u) (fun r s₃ => wpAny (model X.prog X.w) X.A (letTemporaryGo value (.ref a) r >>= fun _ => pure r) (EP X pins σ Q) X.xe s₃) X.xe s := by
    rw [hs]
    exact wpAny_operating (wpAny_mono h (fun r s₃ h₃ => wpAny_bind (wpAny_letTemporaryGo (wpAny_pure h₃))) fun _ _ x => x)
  first
    | exact wpAny_pure (wpAny_bind fin)
    | exact wpAny_bind (wpAny_pure (wpAny_bind fin))
    | exact wpAny_bind fin
theorem IxR.or {r r' : L2.R2} (a : IxR X r) (b : IxR X r') : IxR X fun x y H Q => r x y H Q ∨ r' x y H Q := by
  intro value slice pins s σ H x y v u Q I rx ry h hs
  rcases h with h | h
  · exact a value slice pins s σ H x y v u Q I rx ry h hs
  · exact b value slice pins s σ H x y v u Q I rx ry h hs
theorem x_at (hu : X.A.units + 1 < cLine) : IxR3 X rAt := by
  obtain ⟨r, h1, h2⟩ := x_ix (X := X)
  refine ⟨_, IxR.or h1 (ix_dict hu), fun x y v u H G Q3 Q r rv ru h k => ?_⟩
  have dd : ∀ (a : Addr) (kvs : List (W × W)), x = .ref a → dictOf x G y (fun kvs' => kvs' = kvs) → (match look kvs y with | some w => Q3 w G | none => False) → rIxD v u H Q := fun a kvs ex hd h => by
    obtain ⟨a', kvs', ov, e1, e2, g, rfl, m⟩ := dget_of r rv ru hd
    cases e : look kvs' y with
    | none => rw [e] at h; exact h.elim
    | some w =>
      rw [e] at h m
      obtain ⟨z, rfl, rz⟩ := m
      exact ⟨a', z, e2, g, k z H w G .refl r rz h⟩
  cases x with
  | ref a =>
    cases e : G a with
    | none => simp only [rAt, e] at h
    | some o =>
      cases o with
      | lst ws => exact .inl (h2 _ _ _ _ _ _ _ _ r rv ru (by simp only [rAt, e] at h; simp only [L3.rIx, e]; cases y <;> first | exact h | exact h.elim) k)
      | rdl ws => exact .inl (h2 _ _ _ _ _ _ _ _ r rv ru (by simp only [rAt, e] at h; simp only [L3.rIx, e]; cases y <;> first | exact h | exact h.elim) k)
      | dct kvs => simp only [rAt, e] at h; exact .inr (dd a kvs rfl (by simp only [dictOf, e]; exact ⟨h.1, trivial⟩) h.2)
      | rdc kvs => simp only [rAt, e] at h; exact .inr (dd a kvs rfl (by simp only [dictOf, e]; exact ⟨h.1, trivial⟩) h.2)
      | dtt kvs => simp only [rAt, e] at h; exact .inr (dd a kvs rfl (by simp only [dictOf, e]; exact ⟨h.1, trivial⟩) h.2)
      | rdt kvs => simp only [rAt, e] at h; exact .inr (dd a kvs rfl (by simp only [dictOf, e]; exact ⟨h.1, trivial⟩) h.2)
      | _ => simp only [rAt, e] at h
  | str z => exact .inl (h2 _ _ _ _ _ _ _ _ r rv ru h k)
  | tup z => exact .inl (h2 _ _ _ _ _ _ _ _ r rv ru h k)
  | ktp z => exact .inl (h2 _ _ _ _ _ _ _ _ r rv ru h k)
  | _ => exact h.elim
/-! ### in -/
def rInDD (neg : Bool → Bool) : L2.R2 := fun x y H Q => ∃ a ov, y = .ref a ∧ DGet H a x ov ∧ Q (.bl (neg ov.isSome)) H
theorem op_inDD (hu : X.A.units + 1 < cLine) : OpR X (compareOp .In) (rInDD fun k => k) := by
  intro pins s σ H x y v u Q I rx ry h
  obtain ⟨a, ov, rfl, g, q⟩ := h
  cases ry
  exact d_in hu I g rx fun s3 I3 => ⟨.bl ov.isSome, H, I3, rfl, q⟩
theorem op_ninDD (hu : X.A.units + 1 < cLine) : OpR X (compareOp .NotIn) (rInDD fun k => !k) := by
  intro pins s σ H x y v u Q I rx ry h
  obtain ⟨a, ov, rfl, g, q⟩ := h
  cases ry
  exact d_notIn hu I g rx fun s3 I3 => ⟨.bl (!ov.isSome), H, I3, rfl, q⟩
theorem inB_sim {r0 : L2.R2} {neg : Bool → Bool} (h0 : ∀ (x y : W) (v u : V) (H : Hp) (G : Gh) (Q3 : QV) (Q : VK), Rel X.K H G → Rep X.K H x v → Rep X.K H y u → rInA x y G (fun k => Q3 (.bl (neg k)) G) → (∀ v H' w G', Ext X.K H H' → Rel X.K H' G' → Rep X.K H' w v → Q3 w G' → Q v H') → r0 v u H Q) :
    ∀ x y v u H G (Q3 : QV) (Q : VK), Rel X.K H G → Rep X.K H x v → Rep X.K H y u → rInB x y G (fun k => Q3 (.bl (neg k)) G) → (∀ v H' w G', Ext X.K H H' → Rel X.K H' G' → Rep X.K H' w v → Q3 w G' → Q v H') → r0 v u H Q ∨ rInDD neg v u H Q := by
  intro x y v u H G Q3 Q r rv ru h k
  have dd : ∀ (a : Addr) (kvs : List (W × W)), y = .ref a → dictOf y G x (fun kvs' => kvs' = kvs) → Q3 (.bl (neg (has kvs x))) G → rInDD neg v u H Q := fun a kvs ex hd h => by
    obtain ⟨a', kvs', ov, e1, e2, g, rfl, m⟩ := dget_of r ru rv hd
    refine ⟨a', ov, e2, g, ?_⟩
    have e : ov.isSome = has kvs' x := by
      unfold has
      cases e : look kvs' x with
      | none => rw [e] at m; rw [m]; rfl
      | some w => rw [e] at m; obtain ⟨z, rfl, _⟩ := m; rfl
    rw [e]
    exact k _ H _ G .refl r rbl h
  cases y with
  | ref a =>
    cases e : G a with
    | none => simp only [rInB, e] at h
    | some o =>
      cases o with
      | lst ws => exact .inl (h0 _ _ _ _ _ _ _ _ r rv ru (by simpa only [rInB, rInA, e] using h) k)
      | dct kvs => simp only [rInB, e] at h; exact .inr (dd a kvs rfl (by simp only [dictOf, e]; exact ⟨h.1, trivial⟩) h.2)
      | rdc kvs => simp only [rInB, e] at h; exact .inr (dd a kvs rfl (by simp only [dictOf, e]; exact ⟨h.1, trivial⟩) h.2)
      | dtt kvs => simp only [rInB, e] at h; exact .inr (dd a kvs rfl (by simp only [dictOf, e]; exact ⟨h.1, trivial⟩) h.2)
      | rdt kvs => simp only [rInB, e] at h; exact .inr (dd a kvs rfl (by simp only [dictOf, e]; exact ⟨h.1, trivial⟩) h.2)
      | _ => simp only [rInB, e] at h
  | str z => exact .inl (h0 _ _ _ _ _ _ _ _ r rv ru (by simp only [rInB] at h; simp only [rInA]; split at h <;> first | exact h | exact h.elim) k)
  | tup z => exact .inl (h0 _ _ _ _ _ _ _ _ r rv ru (by simpa only [rInB, rInA] using h) k)
  | ktp z => exact .inl (h0 _ _ _ _ _ _ _ _ r rv ru (by simpa only [rInB, rInA] using h) k)
  | _ => exact h.elim
theorem o_inD (hu : X.A.units + 65 < cLine) : OpR3 X (compareOp .In) rInD := by
  obtain ⟨r, h1, h2⟩ := o_in (X := X) hu
  exact ⟨_, h1.or (op_inDD (by omega)), inB_sim (neg := fun k => k) fun x y v u H G Q3 Q a b c d k => h2 x y v u H G Q3 Q a b c d k⟩
theorem o_notinD (hu : X.A.units + 65 < cLine) : OpR3 X (compareOp .NotIn) rNotInD := by
  obtain ⟨r, h1, h2⟩ := o_notin (X := X) hu
  exact ⟨_, h1.or (op_ninDD (by omega)), inB_sim (neg := fun k => !k) fun x y v u H G Q3 Q a b c d k => h2 x y v u H G Q3 Q a b c d k⟩
/-! ### o[i] = v -/
variable {o i e f value : Expr} {pos pos' apos cpos : Pos} {td ty tv tz : TE}
theorem ps_putA {td ty tv : L2.TE} (hu : X.A.units + 1 < cLine) (hv : PE X value tv) (ho : PE X o td) (hi : PE X i ty) (hs : swapsWith value (some (.Subscript o i pos')) pos.line X.env = pure false) :
    PS X (.Assign [.Subscript o i pos'] value pos) (fun D σ H => tv σ H fun v H1 => td σ H1 fun x H2 => ty σ H2 fun y H3 => (∃ a H4, x = .ref a ∧ DPut H3 a y v H4 ∧ D.nx σ H4) ∨ L2.rSetL x y v H3 (D.nx σ)) := by
  refine ⟨fun pins s σ H D I h => ?_⟩
  refine wpAny_Assign_Subscript (thn (hv.run pins s σ H _ I h) fun r s1 ⟨v, H1, I1, rv, q1⟩ => thn (ho.run pins s1 σ H1 _ I1 q1) fun u s2 ⟨x, H2, I2, rx, q2⟩ => thn (hi.run pins s2 σ H2 _ I2 q2) fun iv s3 ⟨y, H3, I3, ry, q3⟩ => ?_) hs
  rcases q3 with ⟨a, H4, ex, g, q3⟩ | q3
  · subst ex
    obtain rfl : u = Value.ref a := rx
    exact d_setItem hu I3 g ry rv fun s4 I4 => ⟨σ, H4, I4, q3⟩
  · exact thn (set_list pins s3 σ H3 x y v u iv r _ I3 rx ry rv q3) fun _ s4 ⟨H4, I4, q4⟩ => ⟨σ, H4, I4, q4⟩
theorem ps3_putA (hu : X.A.units + 1 < cLine) (hv : PE3 X value tv) (ho : PE3 X o td) (hi : PE3 X i ty) (hs : swapsWith value (some (.Subscript o i pos')) pos.line X.env = pure false := by rfl) :
    PS3 X (.Assign [.Subscript o i pos'] value pos) (sPutA tv td ty) := fun E tk => by
  obtain ⟨t, p1, q1⟩ := hv E tk
  obtain ⟨u, p2, q2⟩ := ho E tk
  obtain ⟨z, p3, q3⟩ := hi E tk
  refine ⟨_, ps_putA hu p1 p2 p3 hs, fun D D3 σ H γ G hE oe hs hr h3 => ?_⟩
  cases E; dsimp only at hE; subst hE
  refine q1 σ H γ G _ _ hs hr h3 fun v H1 w G1 x1 r1 rv h3 => ?_
  refine q2 σ H1 γ G1 _ _ (hs.ext x1) r1 h3 fun v2 H2 w2 G2 x2 r2 rv2 h3 => ?_
  refine q3 σ H2 γ G2 _ _ (hs.ext (x1.trans x2)) r2 h3 fun v3 H3 w3 G3 x3 r3 rv3 h3 => ?_
  have rv' := rv.ext (x2.trans x3)
  have y := (x1.trans x2).trans x3
  cases w2 with
  | ref a =>
    rw [rep_ref1 rv2]
    simp only at h3
    split at h3
    · rename_i ws eq
      cases w3 with
      | int j =>
        obtain ⟨xs, s1, s2⟩ := r3.lst eq
        have m : Mut (H3 a) := by rw [s1]; trivial
        simp only at h3
        cases e : ixn ws.length j with
        | none => rw [e] at h3; exact h3.elim
        | some n =>
          rw [e] at h3
          refine .inr ⟨a, xs, j, n, rfl, rep_int1 rv3, s1, by rw [ixn_eq, ← s2.length]; exact e, ?_⟩
          exact oe.nx σ _ γ _ (y.trans (.write m)) (hs.ext (y.trans (.write m))) (r3.write (o := .lst (ws.set n w)) m ⟨_, upd_same, (s2.set n rv').ext (.write m)⟩) h3
      | _ => exact h3.elim
    · rename_i kvs eq
      obtain ⟨hk, hz, h3⟩ := h3
      obtain ⟨ks, s1, s2⟩ := r3 a _ eq
      have m : Mut (H3 a) := by rw [s1]; trivial
      rw [key_rep rv3 hk]
      refine .inl ⟨a, _, rfl, DPut.k s1 (by rw [← s2.length, sz_eq]; exact hz), ?_⟩
      exact oe.nx σ _ γ _ (y.trans (.write m)) (hs.ext (y.trans (.write m))) (r3.write (o := .dct (putD kvs w3 w)) m ⟨_, upd_same, (put_rep hk rv' s2).ext (.write m)⟩) h3
    · rename_i kvs eq
      obtain ⟨hk, hz, h3⟩ := h3
      obtain ⟨ks, s1, s2⟩ := r3 a _ eq
      have m : Mut (H3 a) := by rw [s1]; trivial
      obtain ⟨b, rfl, hb⟩ := keyT_rep rv3 hk
      refine .inl ⟨a, _, rfl, DPut.t s1 hb (by rw [← s2.length, sz_eq]; exact hz), ?_⟩
      exact oe.nx σ _ γ _ (y.trans (.write m)) (hs.ext (y.trans (.write m))) (r3.write (o := .dtt (putD kvs w3 w)) m ⟨_, upd_same, (put_repG (keq_tk hk) (tk_keys hk) rv' s2).ext (.write m)⟩) h3
    · exact h3.elim
  | _ => exact h3.elim
theorem pe3_dnewT : PE3 X (.Dict [] [] pos) eDnewT := fun E tk => ⟨_, pe_dnewT, fun σ H γ G Q3 Q hs hr h3 k => fun p hp =>
  k _ _ _ _ (.new hp) (hr.new (o := .dtt []) hp ⟨[], upd_same, rfl⟩) rref (h3 p (hr.free hp))⟩
/-! ### get -/
theorem isD_of {K : Frag} {H : Hp} {G : Gh} {x : W} {v : V} (r : Rel K H G) (rv : Rep K H x v) (h : isDW x G) : ∃ a, v = .ref a ∧ IsD H a := by
  cases x with
  | ref a =>
    refine ⟨a, rep_ref1 rv, ?_⟩
    simp only [isDW] at h
    split at h
    · rename_i e; obtain ⟨ks, s1, _⟩ := r a _ e; exact .inl ⟨ks, .inl s1⟩
    · rename_i e; obtain ⟨o, ks, s1, _⟩ := r a _ e; exact .inl ⟨ks, .inr ⟨o, s1⟩⟩
    · rename_i e; obtain ⟨ks, s1, _⟩ := r a _ e; exact .inr ⟨ks, .inl s1⟩
    · rename_i e; obtain ⟨o, ks, s1, _⟩ := r a _ e; exact .inr ⟨ks, .inr ⟨o, s1⟩⟩
    · exact h.elim
  | _ => exact h.elim
theorem pe3_dget1 (hu : X.A.units + 1 < cLine) (ho : PE3 X o td) (hi : PE3 X e ty) (m : M1 X o "get" apos e cpos := by exact ⟨rfl, rfl, rfl, rfl⟩) : PE3 X (.Call (.Attribute o "get" apos) [e] [] cpos) (eDget1 td ty) := fun E tk => by
  obtain ⟨t, p1, q1⟩ := ho E tk
  obtain ⟨u, p2, q2⟩ := hi E tk
  refine ⟨_, pe_dget1 hu p1 p2 m, fun σ H γ G Q3 Q hs hr h3 k => ?_⟩
  refine q1 σ H γ G _ _ hs hr h3 fun v H1 w G1 x1 r1 rv h3 => ?_
  obtain ⟨a, rfl, d⟩ := isD_of r1 rv h3.1
  refine ⟨a, rfl, d, ?_⟩
  refine q2 σ H1 γ G1 _ _ (hs.ext x1) r1 h3.2 fun v2 H2 w2 G2 x2 r2 rv2 h3 => ?_
  obtain ⟨a', kvs, ov, e1, e2, g, h3, mm⟩ := dget_of r2 (rv.ext x2) rv2 h3
  cases e2
  refine ⟨ov, g, ?_⟩
  cases el : look kvs w2 with
  | none => rw [el] at mm h3; subst mm; exact k _ H2 _ G2 (x1.trans x2) r2 rnon h3
  | some z => rw [el] at mm h3; obtain ⟨y, rfl, ry⟩ := mm; exact k _ H2 _ G2 (x1.trans x2) r2 ry h3
theorem pe3_dget2 (hu : X.A.units + 1 < cLine) (ho : PE3 X o td) (hi : PE3 X e ty) (hf : PE3 X f tz) (m : M2 X o "get" apos e f cpos := by exact ⟨rfl, rfl, rfl, rfl⟩) : PE3 X (.Call (.Attribute o "get" apos) [e, f] [] cpos) (eDget2 td ty tz) := fun E tk => by
  obtain ⟨t, p1, q1⟩ := ho E tk
  obtain ⟨u, p2, q2⟩ := hi E tk
  obtain ⟨s, p3, q3⟩ := hf E tk
  refine ⟨_, pe_dget2 hu p1 p2 p3 m, fun σ H γ G Q3 Q hs hr h3 k => ?_⟩
  refine q1 σ H γ G _ _ hs hr h3 fun v H1 w G1 x1 r1 rv h3 => ?_
  obtain ⟨a, rfl, d⟩ := isD_of r1 rv h3.1
  refine ⟨a, rfl, d, ?_⟩
  refine q2 σ H1 γ G1 _ _ (hs.ext x1) r1 h3.2 fun v2 H2 w2 G2 x2 r2 rv2 h3 => ?_
  refine q3 σ H2 γ G2 _ _ (hs.ext (x1.trans x2)) r2 h3 fun v3 H3 w3 G3 x3 r3 rv3 h3 => ?_
  obtain ⟨a', kvs, ov, e1, e2, g, h3, mm⟩ := dget_of r3 (rv.ext (x2.trans x3)) (rv2.ext x3) h3
  cases e2
  refine ⟨ov, g, ?_⟩
  have y := (x1.trans x2).trans x3
  cases el : look kvs w2 with
  | none => rw [el] at mm h3; subst mm; exact k _ H3 _ G3 y r3 rv3 h3
  | some z => rw [el] at mm h3; obtain ⟨y', rfl, ry⟩ := mm; exact k _ H3 _ G3 y r3 ry h3
/-! ### pop, setdefault -/
theorem KT_without {H : Hp} (k : List Key) {kvs : List (List Key × V)} {xs : List (List Key × Addr × Value)} (r : KT H kvs xs) : KT H (dropK kvs k) (withoutH xs k) := L2.DX.KT_drop k r
/-- the dict at a without the key y -/
theorem d_popG {pins : List (Addr × Obj)} {σ : St} {H : Hp} {s : Shared} {a : Addr} {y v : V} {u : Value} {more : List Value} {Q : Value → Shared → Prop} {E : Value → Shared → Prop} {A : Around} (hu : A.units + 1 < cLine) (I : Inv X pins σ H s) (ry : RelV y u) (hm : more = [] ∨ ∃ x, more = [x])
    (g : (∃ kvs k, H a = some (.dK kvs) ∧ y = kV k ∧ valV kvs k = some v ∧ ∀ w' s', Inv X pins σ (upd H a (.dK (dropK kvs k))) s' → RelV v w' → Q w' s') ∨
      ∃ kvs k b, H a = some (.dT kvs) ∧ y = .ref b ∧ H b = some (.tup (k.map kV)) ∧ valV kvs k = some v ∧ ∀ w' s', Inv X pins σ (upd H a (.dT (dropK kvs k))) s' → RelV v w' → Q w' s') :
    wpAny (model X.prog X.w) A (call (.builtin "dict.pop") (.ref a :: u :: more)) Q E s := by
  rcases g with ⟨kvs, k, e, rfl, l, h⟩ | ⟨kvs, k, b, e, rfl, eb, l, h⟩
  · exact d_pop I e ry l hm h
  · cases (show u = Value.ref b from ry)
    obtain ⟨z, hd, xs, rel, dd⟩ := dt_of I.hok e
    have hz : xs.length ≤ sizeLine := by rw [← Paired.length rel]; exact z
    obtain ⟨w', hw, rw'⟩ := RelO.some_of (v := v) (o := (atKey xs k).map (·.2)) (by rw [← l]; exact rel.val k)
    obtain ⟨p, hp, hp2⟩ := Option.map_eq_some_iff.mp hw
    have ha : argsOk "dict.pop" ⟨.ref a :: .ref b :: more, []⟩ := by
      rcases hm with q | ⟨x, q⟩
      · subst q; exact PySem.F.args_dict_pop_2 _ _
      · subst q; exact PySem.F.args_dict_pop_3 _ _ _
    refine call_pop_heap (hsz := hz) hm ha (tupleKind_room_in1 hu) (key_of I.hok eb) hd dd hp fun h' dd' hs => h p.2 _ ?_ (by rw [hp2]; exact rw')
    obtain ⟨q, es, ep, hq, h2, h3, h4, _, h5⟩ := dd'
    refine d_write I (by rw [e]; exact True.intro) hs ⟨q, hq⟩ ⟨Nat.le_trans (dropK_le kvs k) z, hd, _, (KT_without k rel).keeps fun c ys ec => ?_, q, es, ep, hq, h2, h3, h4, h5⟩
    rw [upd_ne (ne_of ec e (fun z => nomatch z))]
    exact ec
/-- d.pop(y, r), y is not there -/
theorem d_popN {pins : List (Addr × Obj)} {σ : St} {H : Hp} {s : Shared} {a : Addr} {y d : V} {u r : Value} {Q : VK} (hu : X.A.units + 1 < cLine) (I : Inv X pins σ H s) (ry : RelV y u) (rd : RelV d r)
    (g : (∃ kvs k, H a = some (.dK kvs) ∧ y = kV k ∧ valV kvs k = none) ∨ ∃ kvs k b, H a = some (.dT kvs) ∧ y = .ref b ∧ H b = some (.tup (k.map kV)) ∧ valV kvs k = none) (h : Q d H) :
    wpAny (model X.prog X.w) X.A (call (.builtin "dict.pop") [.ref a, u, r]) (EP X pins σ Q) X.xe s := by
  rcases g with ⟨kvs, k, e, rfl, l⟩ | ⟨kvs, k, b, e, rfl, eb, l⟩
  · exact d_popD I e ry l fun s' I' => ⟨d, H, I', rd, h⟩
  · cases (show u = Value.ref b from ry)
    exact L2.DX.mt_popT hu pins s σ H (.ref a) [.ref b, d] (.ref a) [.ref b, r] Q I rfl (.cons rfl (.cons rd .nil)) ⟨a, kvs, k, b, d, rfl, rfl, e, eb, (fun v hv => by rw [l] at hv; cases hv), fun _ => h⟩
def isDM' (H : Hp) (a : Addr) : Prop := IsD H a
theorem isDM_of {K : Frag} {H : Hp} {G : Gh} {x : W} {v : V} (r : Rel K H G) (rv : Rep K H x v) (h : isDM x G) : ∃ a, x = .ref a ∧ v = .ref a ∧ IsD H a := by
  cases x with
  | ref a =>
    refine ⟨a, rfl, rep_ref1 rv, ?_⟩
    simp only [isDM] at h
    split at h
    · rename_i e; obtain ⟨ks, s1, _⟩ := r a _ e; exact .inl ⟨ks, .inl s1⟩
    · rename_i e; obtain ⟨ks, s1, _⟩ := r a _ e; exact .inr ⟨ks, .inl s1⟩
    · exact h.elim
  | _ => exact h.elim
/-- what stands for popping in the hand layer -/
def rPopA (y : V) (a : Addr) (H : Hp) (Q : VK) : Prop := ∃ v, (∃ kvs k, H a = some (.dK kvs) ∧ y = kV k ∧ valV kvs k = some v ∧ Q v (upd H a (.dK (dropK kvs k)))) ∨
  ∃ kvs k b, H a = some (.dT kvs) ∧ y = .ref b ∧ H b = some (.tup (k.map kV)) ∧ valV kvs k = some v ∧ Q v (upd H a (.dT (dropK kvs k)))
def rPopB (y : V) (a : Addr) (H : Hp) : Prop := (∃ kvs k, H a = some (.dK kvs) ∧ y = kV k ∧ valV kvs k = none) ∨ ∃ kvs k b, H a = some (.dT kvs) ∧ y = .ref b ∧ H b = some (.tup (k.map kV)) ∧ valV kvs k = none
theorem pop_sim {K : Frag} {H : Hp} {G : Gh} {y z : W} {a : Addr} {u : V} {P : Prop} {Q3 : QV} {Q : VK} (r : Rel K H G) (ru : Rep K H y u) (h : popD (.ref a) y z G Q3) (k : ∀ v H' w G', Ext K H H' → Rel K H' G' → Rep K H' w v → Q3 w G' → Q v H') (kz : Q3 z G → P) :
    rPopA u a H Q ∨ (rPopB u a H ∧ P) := by
  simp only [popD] at h
  split at h
  · rename_i kvs eq
    obtain ⟨hk, h⟩ := h
    obtain ⟨ks, s1, s2⟩ := r a _ eq
    have m : Mut (H a) := by rw [s1]; trivial
    cases el : look kvs y with
    | none =>
      rw [el] at h
      exact .inr ⟨.inl ⟨ks, _, s1, key_rep ru hk, look_none hk s2 el⟩, kz h⟩
    | some w =>
      rw [el] at h
      obtain ⟨v, g1, g2⟩ := look_some hk s2 el
      exact .inl ⟨v, .inl ⟨ks, _, s1, key_rep ru hk, g1, k _ _ _ _ (.write m) (r.write (o := .dct (dropD kvs y)) m ⟨_, upd_same, (drop_rep hk s2).ext (.write m)⟩) (g2.ext (.write m)) h⟩⟩
  · rename_i kvs eq
    obtain ⟨hk, h⟩ := h
    obtain ⟨ks, s1, s2⟩ := r a _ eq
    have m : Mut (H a) := by rw [s1]; trivial
    obtain ⟨b, rfl, hb⟩ := keyT_rep ru hk
    cases el : look kvs y with
    | none =>
      rw [el] at h
      exact .inr ⟨.inr ⟨ks, _, b, s1, rfl, hb, look_noneG (keq_tk hk) s2 el⟩, kz h⟩
    | some w =>
      rw [el] at h
      obtain ⟨v, g1, g2⟩ := look_someG (keq_tk hk) s2 el
      exact .inl ⟨v, .inr ⟨ks, _, b, s1, rfl, hb, g1, k _ _ _ _ (.write m) (r.write (o := .dtt (dropD kvs y)) m ⟨_, upd_same, (drop_repG (keq_tk hk) s2).ext (.write m)⟩) (g2.ext (.write m)) h⟩⟩
  · exact h.elim
theorem pe3_dpop2 (hu : X.A.units + 1 < cLine) (ho : PE3 X o td) (hi : PE3 X e ty) (hf : PE3 X f tz) (m : M2 X o "pop" apos e f cpos := by exact ⟨rfl, rfl, rfl, rfl⟩) : PE3 X (.Call (.Attribute o "pop" apos) [e, f] [] cpos) (eDpop2 td ty tz) := fun E tk => by
  obtain ⟨t, p1, q1⟩ := ho E tk
  obtain ⟨u, p2, q2⟩ := hi E tk
  obtain ⟨t3, p3, q3⟩ := hf E tk
  refine ⟨fun σ H Q => t σ H fun x H1 => ∃ a, x = .ref a ∧ IsD H1 a ∧ u σ H1 fun y H2 => t3 σ H2 fun z H3 => rPopA y a H3 Q ∨ (rPopB y a H3 ∧ Q z H3), ⟨fun pins s σ H Q I h => ?_⟩, fun σ H γ G Q3 Q hs hr h3 k => ?_⟩
  · refine wpAny_Call_method m.base m.few m.line PySem.F.plainAttrs_dict PySem.F.slot_dict_pop PySem.F.type_dict_pop (thn (p1.run pins s σ H _ I h) fun u s1 ⟨x, H1, I1, rx, a, ex, d, q1⟩ => ?_)
    subst ex
    obtain rfl : u = Value.ref a := rx
    obtain ⟨t1, t2, _⟩ := isD_at I1 d
    refine ⟨t1, t2, ?_⟩
    rw [m.trees]
    refine Calls.callWith_builtin rfl (Calls.evalArgs_plain (Calls.spliced_cons (thn (p2.run pins s1 σ H1 _ I1 q1) fun iv s2 ⟨y, H2, I2, ry, q2⟩ =>
      Calls.spliced_cons (thn (p3.run pins s2 σ H2 _ I2 q2) fun fv s3 ⟨z, H3, I3, rz, q3⟩ => Calls.spliced_nil ?_))))
    rcases q3 with ⟨v, ⟨kvs, k, e1, e2, e3, q⟩ | ⟨kvs, k, b, e1, e2, e3, e4, q⟩⟩ | ⟨q, q'⟩
    · exact d_popG (v := v) hu I3 ry (.inr ⟨_, rfl⟩) (.inl ⟨kvs, k, e1, e2, e3, fun w' s' I' r' => ⟨v, _, I', r', q⟩⟩)
    · exact d_popG (v := v) hu I3 ry (.inr ⟨_, rfl⟩) (.inr ⟨kvs, k, b, e1, e2, e3, e4, fun w' s' I' r' => ⟨v, _, I', r', q⟩⟩)
    · exact d_popN hu I3 ry rz q q'
  · refine q1 σ H γ G _ _ hs hr h3 fun v H1 w G1 x1 r1 rv h3 => ?_
    obtain ⟨a, rfl, rfl, d⟩ := isDM_of r1 rv h3.1
    refine ⟨a, rfl, d, ?_⟩
    refine q2 σ H1 γ G1 _ _ (hs.ext x1) r1 h3.2 fun v2 H2 w2 G2 x2 r2 rv2 h3 => ?_
    refine q3 σ H2 γ G2 _ _ (hs.ext (x1.trans x2)) r2 h3 fun v3 H3 w3 G3 x3 r3 rv3 h3 => ?_
    have y := (x1.trans x2).trans x3
    exact pop_sim r3 (rv2.ext x3) h3 (fun v' H' w' G' x' => k v' H' w' G' (y.trans x')) fun q => k _ H3 _ G3 y r3 rv3 q
theorem pe3_dpop1 (hu : X.A.units + 1 < cLine) (ho : PE3 X o td) (hi : PE3 X e ty) (m : M1 X o "pop" apos e cpos := by exact ⟨rfl, rfl, rfl, rfl⟩) : PE3 X (.Call (.Attribute o "pop" apos) [e] [] cpos) (eDpop1 td ty) := fun E tk => by
  obtain ⟨t, p1, q1⟩ := ho E tk
  obtain ⟨u, p2, q2⟩ := hi E tk
  refine ⟨fun σ H Q => t σ H fun x H1 => ∃ a, x = .ref a ∧ IsD H1 a ∧ u σ H1 fun y H2 => rPopA y a H2 Q, ⟨fun pins s σ H Q I h => ?_⟩, fun σ H γ G Q3 Q hs hr h3 k => ?_⟩
  · refine wpAny_Call_method m.base m.few m.line PySem.F.plainAttrs_dict PySem.F.slot_dict_pop PySem.F.type_dict_pop (thn (p1.run pins s σ H _ I h) fun u s1 ⟨x, H1, I1, rx, a, ex, d, q1⟩ => ?_)
    subst ex
    obtain rfl : u = Value.ref a := rx
    obtain ⟨t1, t2, _⟩ := isD_at I1 d
    refine ⟨t1, t2, ?_⟩
    rw [m.trees]
    refine Calls.callWith_builtin rfl (Calls.evalArgs_plain (Calls.spliced_cons (thn (p2.run pins s1 σ H1 _ I1 q1) fun iv s2 ⟨y, H2, I2, ry, q2⟩ => Calls.spliced_nil ?_)))
    obtain ⟨v, ⟨kvs, k, e1, e2, e3, q⟩ | ⟨kvs, k, b, e1, e2, e3, e4, q⟩⟩ := q2
    · exact d_popG (v := v) hu I2 ry (.inl rfl) (.inl ⟨kvs, k, e1, e2, e3, fun w' s' I' r' => ⟨v, _, I', r', q⟩⟩)
    · exact d_popG (v := v) hu I2 ry (.inl rfl) (.inr ⟨kvs, k, b, e1, e2, e3, e4, fun w' s' I' r' => ⟨v, _, I', r', q⟩⟩)
  · refine q1 σ H γ G _ _ hs hr h3 fun v H1 w G1 x1 r1 rv h3 => ?_
    obtain ⟨a, rfl, rfl, d⟩ := isDM_of r1 rv h3.1
    refine ⟨a, rfl, d, ?_⟩
    refine q2 σ H1 γ G1 _ _ (hs.ext x1) r1 h3.2 fun v2 H2 w2 G2 x2 r2 rv2 h3 => ?_
    have h4 : popD (.ref a) w2 .non G2 (fun w' G' => w' ≠ .non ∧ False ∨ Q3 w' G') ∨ popK (.ref a) w2 G2 Q3 := .inr h3
    have go : rPopA v2 a H2 Q := by
      simp only [popK] at h3
      split at h3
      · rename_i kvs eq
        obtain ⟨hk, h3⟩ := h3
        obtain ⟨ks, s1, s2⟩ := r2 a _ eq
        have m : Mut (H2 a) := by rw [s1]; trivial
        cases el : look kvs w2 with
        | none => rw [el] at h3; exact h3.elim
        | some w =>
          rw [el] at h3
          obtain ⟨v, g1, g2⟩ := look_some hk s2 el
          exact ⟨v, .inl ⟨ks, _, s1, key_rep rv2 hk, g1, k _ _ _ _ ((x1.trans x2).trans (.write m)) (r2.write (o := .dct (dropD kvs w2)) m ⟨_, upd_same, (drop_rep hk s2).ext (.write m)⟩) (g2.ext (.write m)) h3⟩⟩
      · rename_i kvs eq
        obtain ⟨hk, h3⟩ := h3
        obtain ⟨ks, s1, s2⟩ := r2 a _ eq
        have m : Mut (H2 a) := by rw [s1]; trivial
        obtain ⟨b, rfl, hb⟩ := keyT_rep rv2 hk
        cases el : look kvs w2 with
        | none => rw [el] at h3; exact h3.elim
        | some w =>
          rw [el] at h3
          obtain ⟨v, g1, g2⟩ := look_someG (keq_tk hk) s2 el
          exact ⟨v, .inr ⟨ks, _, b, s1, rfl, hb, g1, k _ _ _ _ ((x1.trans x2).trans (.write m)) (r2.write (o := .dtt (dropD kvs w2)) m ⟨_, upd_same, (drop_repG (keq_tk hk) s2).ext (.write m)⟩) (g2.ext (.write m)) h3⟩⟩
      · exact h3.elim
    exact go
/-- d.setdefault(y, r) -/
theorem d_setd {pins : List (Addr × Obj)} {σ : St} {H : Hp} {s : Shared} {a : Addr} {y d : V} {u r : Value} {Q : VK} (hu : X.A.units + 1 < cLine) (I : Inv X pins σ H s) (ry : RelV y u) (rd : RelV d r)
    (g : ∃ o H', DGet H a y o ∧ DPut H a y d H' ∧ (match o with | some v => Q v H | none => Q d H')) : wpAny (model X.prog X.w) X.A (call (.builtin "dict.setdefault") [.ref a, u, r]) (EP X pins σ Q) X.xe s := by
  obtain ⟨o, H', g1, g2, h⟩ := g
  rcases g2 with ⟨kvs, k, e, ey, l, eH⟩ | ⟨kvs, k, b, e, ey, eb, l, eH⟩
  · subst ey eH
    have eo : o = valV kvs k := by
      rcases g1 with ⟨kvs', k', e', ek, eo⟩ | ⟨kvs', k', b', e', ek, _, _⟩
      · have := kV_inj ek; subst this
        rcases e' with e' | ⟨o', e'⟩
        · rw [e] at e'; cases e'; exact eo
        · rw [e] at e'; cases e'
      · cases k <;> cases ek
    subst eo
    obtain ⟨z, hd, vs, rel, dd⟩ := dk_of I.hok e
    have hz : vs.length ≤ sizeLine := by rw [← rel.length]; exact z
    have hl : (putK kvs k d).length ≤ sizeLine := by have := length_putK kvs k d; omega
    refine call_meetsIn PySem.F.slot_dict_setdefault dd.typeIs PySem.F.entry_dict_setdefault (PySem.F.args_dict_setdefault_3 _ _ _) (kt_meets_setdefault (mixKind X.prog X.w) a (kV_is ry) hd r) ⟨vs, dd, hz, fun v' hv' => ?_, fun hn h' dd' hs => ?_⟩
    · have rr := rel.val k
      rw [hv'] at rr
      cases ev : valV kvs k with
      | none => rw [ev] at rr; exact (show False from rr).elim
      | some v0 => rw [ev] at rr h; exact ⟨v0, H, I.tok _, rr, h⟩
    · have rr := rel.val k
      rw [hn] at rr
      cases ev : valV kvs k with
      | some v0 => rw [ev] at rr; exact (show False from rr).elim
      | none =>
        rw [ev] at h
        have he : ∃ q, h'.get? a = some q := let ⟨q, _, _, hq, _⟩ := dd'; ⟨q, hq⟩
        exact ⟨d, _, d_write I (by rw [e]; exact True.intro) hs he (dk_new hl hd (rel.put k rd) dd'), rd, h⟩
  · subst ey eH
    have eo : o = valV kvs k := by
      rcases g1 with ⟨kvs', k', e', ek, eo⟩ | ⟨kvs', k', b', e', ek, eb', eo⟩
      · cases k' <;> cases ek
      · cases ek
        rw [eb] at eb'
        injection eb' with eb'
        injection eb' with eb'
        have := kVs_inj eb'
        subst this
        rcases e' with e' | ⟨o', e'⟩
        · rw [e] at e'; cases e'; exact eo
        · rw [e] at e'; cases e'
    subst eo
    cases (show u = Value.ref b from ry)
    obtain ⟨z, hd, xs, rel, dd⟩ := dt_of I.hok e
    have hz : xs.length ≤ sizeLine := by rw [← Paired.length rel]; exact z
    have hl : (putK kvs k d).length ≤ sizeLine := by have := length_putK kvs k d; omega
    refine call_setdefault_heap (hsz := hz) (tupleKind_room_in1 hu) (key_of I.hok eb) hd dd (fun p hp => ?_) fun hn h' dd' hs => ?_
    · have rr := rel.val k
      rw [hp] at rr
      cases ev : valV kvs k with
      | none => rw [ev] at rr; exact (show False from rr).elim
      | some v0 => rw [ev] at rr h; exact ⟨v0, H, I.tok _, rr, h⟩
    · have rr := rel.val k
      rw [hn] at rr
      cases ev : valV kvs k with
      | some v0 => rw [ev] at rr; exact (show False from rr).elim
      | none =>
        rw [ev] at h
        obtain ⟨q, es, ep, hq, h2, h3, h4, _, h5⟩ := dd'
        refine ⟨d, upd H a (.dT (putK kvs k d)), d_write I (by rw [e]; exact True.intro) hs ⟨q, hq⟩ ⟨hl, hd, _, (rel.put k eb rd).keeps fun c ys ec => ?_, q, es, ep, hq, h2, h3, h4, h5⟩, rd, h⟩
        rw [upd_ne (ne_of ec e (fun z => nomatch z))]
        exact ec
theorem pe3_dsetd (hu : X.A.units + 1 < cLine) (ho : PE3 X o td) (hi : PE3 X e ty) (hf : PE3 X f tz) (m : M2 X o "setdefault" apos e f cpos := by exact ⟨rfl, rfl, rfl, rfl⟩) : PE3 X (.Call (.Attribute o "setdefault" apos) [e, f] [] cpos) (eDsetd td ty tz) := fun E tk => by
  obtain ⟨t, p1, q1⟩ := ho E tk
  obtain ⟨u, p2, q2⟩ := hi E tk
  obtain ⟨t3, p3, q3⟩ := hf E tk
  refine ⟨fun σ H Q => t σ H fun x H1 => ∃ a, x = .ref a ∧ IsD H1 a ∧ u σ H1 fun y H2 => t3 σ H2 fun z H3 => ∃ o H', DGet H3 a y o ∧ DPut H3 a y z H' ∧ (match o with | some v => Q v H3 | none => Q z H'), ⟨fun pins s σ H Q I h => ?_⟩, fun σ H γ G Q3 Q hs hr h3 k => ?_⟩
  · refine wpAny_Call_method m.base m.few m.line PySem.F.plainAttrs_dict PySem.F.slot_dict_setdefault PySem.F.type_dict_setdefault (thn (p1.run pins s σ H _ I h) fun u s1 ⟨x, H1, I1, rx, a, ex, d, q1⟩ => ?_)
    subst ex
    obtain rfl : u = Value.ref a := rx
    obtain ⟨t1, t2, _⟩ := isD_at I1 d
    refine ⟨t1, t2, ?_⟩
    rw [m.trees]
    exact Calls.callWith_builtin rfl (Calls.evalArgs_plain (Calls.spliced_cons (thn (p2.run pins s1 σ H1 _ I1 q1) fun iv s2 ⟨y, H2, I2, ry, q2⟩ =>
      Calls.spliced_cons (thn (p3.run pins s2 σ H2 _ I2 q2) fun fv s3 ⟨z, H3, I3, rz, q3⟩ => Calls.spliced_nil (d_setd hu I3 ry rz q3)))))
  · refine q1 σ H γ G _ _ hs hr h3 fun v H1 w G1 x1 r1 rv h3 => ?_
    obtain ⟨a, rfl, rfl, d⟩ := isDM_of r1 rv h3.1
    refine ⟨a, rfl, d, ?_⟩
    refine q2 σ H1 γ G1 _ _ (hs.ext x1) r1 h3.2 fun v2 H2 w2 G2 x2 r2 rv2 h3 => ?_
    refine q3 σ H2 γ G2 _ _ (hs.ext (x1.trans x2)) r2 h3 fun v3 H3 w3 G3 x3 r3 rv3 h3 => ?_
    have y := (x1.trans x2).trans x3
    have rv2' := rv2.ext x3
    simp only at h3
    split at h3
    · rename_i kvs eq
      obtain ⟨hk, hz, h3⟩ := h3
      obtain ⟨ks, s1, s2⟩ := r3 a _ eq
      have m : Mut (H3 a) := by rw [s1]; trivial
      rw [key_rep rv2' hk]
      refine ⟨_, _, DGet.k s1, DPut.k s1 (by rw [← s2.length, sz_eq]; exact hz), ?_⟩
      cases el : look kvs w2 with
      | none =>
        rw [el] at h3
        rw [look_none hk s2 el]
        exact k _ _ _ _ (y.trans (.write m)) (r3.write (o := .dct (putD kvs w2 w3)) m ⟨_, upd_same, (put_rep hk rv3 s2).ext (.write m)⟩) (rv3.ext (.write m)) h3
      | some w =>
        rw [el] at h3
        obtain ⟨v, g1, g2⟩ := look_some hk s2 el
        rw [g1]
        exact k _ _ _ _ y r3 g2 h3
    · rename_i kvs eq
      obtain ⟨hk, hz, h3⟩ := h3
      obtain ⟨ks, s1, s2⟩ := r3 a _ eq
      have m : Mut (H3 a) := by rw [s1]; trivial
      obtain ⟨b, rfl, hb⟩ := keyT_rep rv2' hk
      refine ⟨_, _, DGet.t s1 hb, DPut.t s1 hb (by rw [← s2.length, sz_eq]; exact hz), ?_⟩
      cases el : look kvs w2 with
      | none =>
        rw [el] at h3
        rw [look_noneG (keq_tk hk) s2 el]
        exact k _ _ _ _ (y.trans (.write m)) (r3.write (o := .dtt (putD kvs w2 w3)) m ⟨_, upd_same, (put_repG (keq_tk hk) (tk_keys hk) rv3 s2).ext (.write m)⟩) (rv3.ext (.write m)) h3
      | some w =>
        rw [el] at h3
        obtain ⟨v, g1, g2⟩ := look_someG (keq_tk hk) s2 el
        rw [g1]
        exact k _ _ _ _ y r3 g2 h3
    · exact h3.elim
/-! ### lists -/
theorem m_pop : MtR3 X "list.pop" mPop := by
  refine ⟨_, mt_pop, fun w v ws vs H G Q3 Q r rv rl h k => ?_⟩
  cases w with
  | ref a =>
    simp only [mPop] at h
    split at h
    · rename_i t eq
      split at h
      · cases e : t.getLast? with
        | none => rw [e] at h; exact h.elim
        | some w =>
          rw [e] at h
          obtain ⟨xs, s1, s2⟩ := r.lst eq
          simp only [RepL] at rl
          subst rl
          have m : Mut (H a) := by rw [s1]; trivial
          rw [List.getLast?_eq_getElem?] at e
          obtain ⟨y, e1, e2⟩ := s2.get e
          rw [rep_ref1 rv]
          refine ⟨a, xs, y, rfl, rfl, s1, by rw [← s2.length]; exact e1, ?_⟩
          exact k _ _ _ _ (.write m) (r.write (o := .lst t.dropLast) m ⟨_, upd_same, s2.dropLast.ext (.write m)⟩) (e2.ext (.write m)) h
      · exact h.elim
    · exact h.elim
  | _ => exact h.elim
theorem repl_keys {K : Frag} {H : Hp} : ∀ {kvs : List (W × W)} {ks : List (List Key × V)} {bs : List Addr}, RepKV tkW K H kvs ks → IsKeys H ks bs → RepL K H (kvs.map (·.1)) (bs.map V.ref)
  | [], _, bs, r, h => by
    cases r
    cases h
    exact .nil
  | p :: kvs, _, bs, r, h => by
    obtain ⟨q, r', rfl, e, rv, rr⟩ := r
    cases h with
    | cons h1 h2 =>
      rw [List.map_cons, List.map_cons]
      refine .cons ?_ (repl_keys rr h2)
      rw [e]
      simp only [Rep]
      refine ⟨_, _, rfl, h1, ?_⟩
      have : ∀ l : List Key, RepL K H (l.map keyW) (l.map kV) := by
        intro l
        induction l with
        | nil => exact .nil
        | cons x l ih =>
          refine .cons ?_ ih
          cases x with
          | inl i => simp only [keyW, Rep]; rfl
          | inr s => simp only [keyW, Rep]; show V.str s = _; simp
      exact this _
theorem b_list (hc : X.calm = true) : CallR3 X (.type "list") bList := by
  have cl : CallR X (.type "list") (fun xs H Q => (∃ p ys, xs = [.ref p] ∧ (SqL X.K H p ys ∨ SqT X.K H p ys) ∧ ∀ l, H l = none → Q (.ref l) (upd H l (.lst ys))) ∨ (∃ d kvs, xs = [V.ref d] ∧ Rd H d (.dT kvs) ∧ ∀ p bs, H p = none → IsKeys H kvs bs → Q (.ref p) (upd H p (.lst (bs.map V.ref))))) := by
    intro pins s σ H xs us Q I r h
    rcases h with h | h
    · exact call_list_of pins s σ H xs us Q I r h
    · exact call_list_dT hc pins s σ H xs us Q I r h
  refine ⟨_, cl, fun ws vs H G Q3 Q r rv h k => ?_⟩
  simp only [bList] at h
  split at h
  · rename_i t
    obtain ⟨v, rfl, e⟩ := repl1 rv
    obtain ⟨p, xs, rfl, s1, s2⟩ := rep_tup e
    refine .inl ⟨p, xs, rfl, .inr s1, fun l hl => ?_⟩
    exact k _ _ _ _ (.new hl) (r.new (o := .lst t) hl ⟨_, upd_same, s2.ext (.new hl)⟩) rref (h l (r.free hl))
  · rename_i t
    obtain ⟨v, rfl, e⟩ := repl1 rv
    obtain ⟨p, xs, rfl, s1, s2⟩ := rep_ktp e
    refine .inl ⟨p, xs, rfl, .inr s1, fun l hl => ?_⟩
    exact k _ _ _ _ (.new hl) (r.new (o := .lst t) hl ⟨_, upd_same, s2.ext (.new hl)⟩) rref (h l (r.free hl))
  · rename_i a
    obtain ⟨v, rfl, e⟩ := repl1 rv
    rw [rep_ref1 e]
    split at h
    · rename_i t eq
      obtain ⟨xs, s1, s2⟩ := r.seq (.inl eq)
      refine .inl ⟨a, xs, rfl, .inl s1, fun l hl => ?_⟩
      exact k _ _ _ _ (.new hl) (r.new (o := .lst t) hl ⟨_, upd_same, s2.ext (.new hl)⟩) rref (h l (r.free hl))
    · rename_i t eq
      obtain ⟨xs, s1, s2⟩ := r.seq (.inr eq)
      refine .inl ⟨a, xs, rfl, .inl s1, fun l hl => ?_⟩
      exact k _ _ _ _ (.new hl) (r.new (o := .lst t) hl ⟨_, upd_same, s2.ext (.new hl)⟩) rref (h l (r.free hl))
    · rename_i kvs eq
      obtain ⟨ks, s1, s2⟩ := r a _ eq
      refine .inr ⟨a, ks, rfl, .inl s1, fun l bs hl hk => ?_⟩
      exact k _ _ _ _ (.new hl) (r.new (o := .lst (kvs.map (·.1))) hl ⟨_, upd_same, (repl_keys s2 hk).ext (.new hl)⟩) rref (h l (r.free hl))
    · exact h.elim
  · exact h.elim
end
end L3

end
section
/-! L3SndK: zip of two texts; x[::-1]. -/
namespace L3
open PySem PySem.Spec PyProof.Rows L2
/-! ### zip of two texts -/
def ItzS (x y : Str) : L2.It :=
  ⟨fun i H => i < x.cps.size ∧ i < y.cps.size,
    fun i H v H' => ∃ T c d, v = .ref T ∧ H T = none ∧ H' = upd H T (.tup [.str ⟨#[c]⟩, .str ⟨#[d]⟩]) ∧ x.cps[i]? = some c ∧ y.cps[i]? = some d,
    fun i H => x.cps.size ≤ i ∨ y.cps.size ≤ i⟩
theorem turn_zipS {P : Program} {w : World} {K : Frag} {elts : List Expr} {kk : Nat} {tpos : Pos} {x y : Str} {t u : Tok} {z TI TO i1 i2 : Addr} (D : ZipSep2 z TI TO i1 i2 [i1] [i2]) :
    Turn P w K (.Tuple elts kk tpos) (ItzS x y) [z, TI, TO, i1, i2] z (fun i h => i ≤ x.cps.size ∧ i ≤ y.cps.size ∧ IsZip h z TI TO .none ∧ IsTupOf2 h TI (.ref i1) (.ref i2) ∧ (∃ a b, IsTupOf2 h TO a b) ∧ h.IsStrIter i1 (strIterType x) x t i ∧ h.IsStrIter i2 (strIterType y) y u i) where
  mem := by simp
  obj := fun i h st c hc => by
    obtain ⟨_, _, hz, hTI, ⟨x, y, hTO⟩, ⟨o1, e1, _, d1⟩, ⟨o2, e2, _, d2⟩⟩ := st
    have e' : c = z ∨ c = TI ∨ c = TO ∨ c = i1 ∨ c = i2 := by simpa using hc
    rcases e' with q | q | q | q | q
    · rw [q]; exact ⟨_, hz, fun v q => nomatch q⟩
    · rw [q]; exact ⟨_, hTI, fun v q => nomatch q⟩
    · rw [q]; exact ⟨_, hTO, fun v q => nomatch q⟩
    · rw [q]; exact ⟨o1, e1, fun v q => by rw [d1] at q; cases q⟩
    · rw [q]; exact ⟨o2, e2, fun v q => by rw [d2] at q; cases q⟩
  keep := fun i h h' st k => by
    obtain ⟨l1, l2, hz, hTI, ⟨x, y, hTO⟩, ⟨o1, e1, r1⟩, ⟨o2, e2, r2⟩⟩ := st
    exact ⟨l1, l2, k z (by simp) _ hz, k TI (by simp) _ hTI, ⟨x, y, k TO (by simp) _ hTO⟩, ⟨o1, k i1 (by simp) o1 e1, r1⟩, ⟨o2, k i2 (by simp) o2 e2, r2⟩⟩
  item := by
    intro X hP hw hK hc i pins s σ H E I hf st hg
    subst hP hw hK
    obtain ⟨l1, l2, hz, hTI, ⟨x0, y0, hTO⟩, h1, h2⟩ := st
    obtain ⟨g1, g2⟩ := hg
    have hzl : z < s.heap.objs.size := Heap.lt_size hz
    have hh : X.A.handled = none := I.ok.hd hc
    have D1 : Draws X.prog X.w X.A.in1 i1 [i1] x.cps.size (fun i v => ∃ c u, x.cps[i]? = some c ∧ v = .str ⟨#[c]⟩ u) (fun i h => h.IsStrIter i1 (strIterType x) x t i) := Draws.text (A := X.A.in1) hh i1 x t
    have D2 : Draws X.prog X.w X.A.in1 i2 [i2] y.cps.size (fun i v => ∃ c u, y.cps[i]? = some c ∧ v = .str ⟨#[c]⟩ u) (fun i h => h.IsStrIter i2 (strIterType y) y u i) := Draws.text (A := X.A.in1) hh i2 y u
    refine wpAny_pyNext_zipD2_item D D1 D2 hz hTI hTO h1 h2 g1 g2 fun x1 x2 h' tk ⟨c, uc, hc1, e1⟩ ⟨d, ud, hd1, e2⟩ z' TO' h1' h2' hT hsz hk => ?_
    subst e1 e2
    refine ⟨_, rfl, wpAny_letOwnedTupleGo_zip (s := { s with heap := h', toks := tk }) z' fun h'' z'' sb => ?_⟩
    have hT2 : h''.get? s.heap.objs.size = some { cls := .type "tuple", data := .seq #[.str ⟨#[c]⟩ uc, .str ⟨#[d]⟩ ud] } := (sb.2 _ (Nat.ne_of_gt hzl)).trans hT
    have new : ObjOk X.prog X.w (upd H s.heap.objs.size (.tup [.str ⟨#[c]⟩, .str ⟨#[d]⟩])) h'' s.heap.objs.size (.tup [.str ⟨#[c]⟩, .str ⟨#[d]⟩]) :=
      ⟨by show 2 ≤ sizeLine; decide, [.str ⟨#[c]⟩ uc, .str ⟨#[d]⟩ ud], .cons ⟨uc, rfl⟩ (.cons ⟨ud, rfl⟩ .nil), ⟨_, hT2, rfl, _, rfl⟩⟩
    have I1 : Inv X pins σ (upd H s.heap.objs.size (.tup [.str ⟨#[c]⟩, .str ⟨#[d]⟩])) { s with heap := h'', toks := tk } :=
      I.turnedNew (t' := tk) (ch := [z, TI, TO, i1, i2]) (fun c o hb q => (sb.2 c (fun q' => hb (by simp [q']))).trans (hk c o (fun q' => hb (by simp [q'])) (fun q' => hb (by simp [q'])) (fun q' => hb (by simp [q'])) (fun q' => hb (by simp [q'])) q)) hf (Nat.le_refl _) new
    refine ⟨.ref s.heap.objs.size, _, I1, rfl, ⟨_, c, d, rfl, I.hok.fresh (Nat.le_refl _), rfl, hc1, hd1⟩, ⟨by omega, by omega, z'', ?_, ⟨.str ⟨#[c]⟩ uc, .str ⟨#[d]⟩ ud, ?_⟩, ?_, ?_⟩, fun c hcm => ?_⟩
    · exact (sb.2 _ D.TIz).trans (hk _ _ D.TIz D.TITO D.TIi1 D.TIi2 hTI)
    · exact (sb.2 _ D.TOz).trans TO'
    · obtain ⟨o, e, r⟩ := h1'; exact ⟨o, (sb.2 _ D.zi1.symm).trans e, r⟩
    · obtain ⟨o, e, r⟩ := h2'; exact ⟨o, (sb.2 _ D.zi2.symm).trans e, r⟩
    · have hlt : c < s.heap.objs.size := by
        have e' : c = z ∨ c = TI ∨ c = TO ∨ c = i1 ∨ c = i2 := by simpa using hcm
        rcases e' with q | q | q | q | q
        · rw [q]; exact hzl
        · rw [q]; exact Heap.lt_size hTI
        · rw [q]; exact Heap.lt_size hTO
        · rw [q]; obtain ⟨_, e1, _⟩ := h1; exact Heap.lt_size e1
        · rw [q]; obtain ⟨_, e2, _⟩ := h2; exact Heap.lt_size e2
      rw [upd_ne (Nat.ne_of_lt hlt)]
      exact (hf c hcm).1
  done := by
    intro X hP hw hK hc i pins s σ H E I hf st hg
    subst hP hw hK
    obtain ⟨l1, l2, hz, hTI, ⟨x0, y0, hTO⟩, h1, h2⟩ := st
    have hh : X.A.handled = none := I.ok.hd hc
    have D1 : Draws X.prog X.w X.A.in1 i1 [i1] x.cps.size (fun i v => ∃ c u, x.cps[i]? = some c ∧ v = .str ⟨#[c]⟩ u) (fun i h => h.IsStrIter i1 (strIterType x) x t i) := Draws.text (A := X.A.in1) hh i1 x t
    have D2 : Draws X.prog X.w X.A.in1 i2 [i2] y.cps.size (fun i v => ∃ c u, y.cps[i]? = some c ∧ v = .str ⟨#[c]⟩ u) (fun i h => h.IsStrIter i2 (strIterType y) y u i) := Draws.text (A := X.A.in1) hh i2 y u
    have hend : i = x.cps.size ∨ i = y.cps.size := by
      rcases (show x.cps.size ≤ i ∨ y.cps.size ≤ i from hg) with q | q <;> omega
    exact wpAny_pyNext_zipD2_end D D1 D2 hz hTI hTO h1 h2 l1 l2 hend fun h' tk hk => ⟨rfl, I.turnedL (t' := tk) (ch := [z, TI, TO, i1, i2]) (fun c o hb q =>
      hk c o (fun q' => hb (by simp [q'])) (fun q' => hb (by simp [q'])) (fun q' => hb (by simp [q'])) (fun q' => hb (by simp [q'])) q) hf⟩
  self := fun A i s Q E st h => wpAny_pyIter_zip st.2.2.1 h
section
variable {X : Cx} {pos : Pos}
def tZipS (ta : L2.TA) : L2.TI := fun σ H R => ta σ H fun vs H1 => ∃ x y, vs = [.str x, .str y] ∧ R (ItzS x y) H1
theorem pi_zipS {e e2 : Expr} {ta : L2.TA} {p tpos : Pos} {elts : List Expr} {kk : Nat} (hg : Gl X "zip") (hm : X.mg "zip" = none) (ha : PA X [e, e2] ta)
    (hs : starEach [e, e2] X.env = (false, eval e X.env) :: starEach [e2] X.env := by rfl) (hpl : (backTo pos (starEach [e2] X.env)).any (·.1) = false := by rfl) :
    PI X (.Tuple elts kk tpos) (.Call (.Name "zip" p) [e, e2] [] pos) (tZipS ta) := by
  refine ⟨fun pins s σ H R I h => ?_⟩
  refine Call_ (ld_blt I hg hm PyProof.Rows.boot_zip (PyProof.Rows.callWith_type1 (thn (ha.run pos pins s σ H _ I h) fun us s1 ⟨vs, H1, I1, r1, q1⟩ => ?_) hs hpl))
  obtain ⟨x, y, ex, q⟩ := q1
  subst ex
  cases r1 with
  | cons r rr =>
    cases rr with
    | cons r' rr =>
      cases rr
      obtain ⟨t, rfl⟩ := r
      obtain ⟨u, rfl⟩ := r'
      have fresh5 : ∀ c, c ∈ [s1.heap.objs.size + 4, s1.heap.objs.size + 2, s1.heap.objs.size + 3, s1.heap.objs.size, s1.heap.objs.size + 1] → FpOk X pins H1 c := fun c hcm => by
        have e' : c = s1.heap.objs.size + 4 ∨ c = s1.heap.objs.size + 2 ∨ c = s1.heap.objs.size + 3 ∨ c = s1.heap.objs.size ∨ c = s1.heap.objs.size + 1 := by simpa using hcm
        have hle : s1.heap.objs.size ≤ c := by
          rcases e' with z | z | z | z | z
          · rw [z]; exact Nat.le_add_right _ _
          · rw [z]; exact Nat.le_add_right _ _
          · rw [z]; exact Nat.le_add_right _ _
          · rw [z]; exact Nat.le_refl _
          · rw [z]; exact Nat.le_add_right _ _
        exact I1.fpOk hle (I1.hok.fresh hle)
      refine zip_begins2 (begins_text x t) (begins_text y u) trivial trivial fun h' hz hTI hTO h1 h2 hsz hk => wpAny_pyIter_zip hz ?_
      have I2 : Inv X pins σ H1 { s1 with heap := h' } := I1.kept (t' := s1.toks) hk
      have D : ZipSep2 (s1.heap.objs.size + 4) (s1.heap.objs.size + 2) (s1.heap.objs.size + 3) s1.heap.objs.size (s1.heap.objs.size + 1) [s1.heap.objs.size] [s1.heap.objs.size + 1] := by
        constructor <;> simp <;> omega
      exact ⟨s1.heap.objs.size + 4, [s1.heap.objs.size + 4, s1.heap.objs.size + 2, s1.heap.objs.size + 3, s1.heap.objs.size, s1.heap.objs.size + 1], _, _, H1, rfl, I2, turn_zipS (t := t) (u := u) D, ⟨Nat.zero_le _, Nat.zero_le _, hz, hTI, ⟨_, _, hTO⟩, ⟨_, h1, rfl, rfl⟩, ⟨_, h2, rfl, rfl⟩⟩, fresh5, q⟩
theorem simIt_zipS {K : Frag} {H0 : Hp} {x y : List Nat} : SimIt K H0 (ItzS (S x) (S y)) (fun _ => some (List.zipWith (fun c d => W.tup [.str [c], .str [d]]) x y)) := by
  intro i H G all x' r e
  cases e
  have sx : (S x).cps.size = x.length := by simp [S]
  have sy : (S y).cps.size = y.length := by simp [S]
  have gx : ∀ j : Nat, (S x).cps[j]? = x[j]? := fun j => by simp [S]
  have gy : ∀ j : Nat, (S y).cps[j]? = y[j]? := fun j => by simp [S]
  refine ⟨fun w ew => ?_, fun hl => ?_⟩
  · rw [List.getElem?_zipWith] at ew
    cases q1 : x[i]? with
    | none => rw [q1] at ew; cases ew
    | some c =>
      cases q2 : y[i]? with
      | none => rw [q1, q2] at ew; cases ew
      | some d =>
        rw [q1, q2] at ew
        cases ew
        have a1 := (List.getElem?_eq_some_iff.mp q1).1
        have a2 := (List.getElem?_eq_some_iff.mp q2).1
        refine ⟨⟨by rw [sx]; exact a1, by rw [sy]; exact a2⟩, fun z H' hy => ?_⟩
        obtain ⟨T, c', d', rfl, hT, rfl, f1, f2⟩ := hy
        rw [gx, q1] at f1
        rw [gy, q2] at f2
        cases f1
        cases f2
        refine ⟨.new hT, r.hid hT, ?_⟩
        simp only [Rep]
        exact ⟨T, _, rfl, upd_same, .cons rstr (.one rstr)⟩
  · rw [List.length_zipWith] at hl
    show (S x).cps.size ≤ i ∨ (S y).cps.size ≤ i
    rw [sx, sy]
    omega
theorem pi3_zipS {a b : Expr} {ta : TA} {p tpos : Pos} {elts : List Expr} {kk : Nat} (hg : Gl X "zip") (hm : X.mg "zip" = none) (ha : PA3 X [a, b] ta) (hs : starEach [a, b] X.env = (false, eval a X.env) :: starEach [b] X.env := by rfl)
    (hpl : (backTo pos (starEach [b] X.env)).any (·.1) = false := by rfl) : PI3 X (.Tuple elts kk tpos) (.Call (.Name "zip" p) [a, b] [] pos) (iZipS ta) := fun E tk => by
  obtain ⟨t, p1, q⟩ := ha E tk
  refine ⟨_, pi_zipS hg hm p1 hs hpl, fun σ H γ G R3 R hs hr h3 k => ?_⟩
  refine q σ H γ G _ _ hs hr h3 fun vs H1 ws G1 x1 r1 rv h3 => ?_
  split at h3
  · obtain ⟨v, u, rfl, r1v, ru⟩ := repl2 rv
    rw [rep_str1 r1v, rep_str1 ru]
    exact ⟨_, _, rfl, k _ _ H1 G1 x1 r1 simIt_zipS h3⟩
  · exact h3.elim
/-! ### x[::-1] -/
theorem idx_rev (z : List Nat) : ((Builtin.Str.strSliceIndices none none (-1) z.length).filterMap ((S z).cps[·]?)) = z.reverse := by
  have h : Builtin.Str.strSliceIndices none none (-1) z.length = (List.range z.length).reverse := by
    unfold Builtin.Str.strSliceIndices
    show sliceRange ((z.length : Int) - 1) (-1) (-1) = _
    rw [PySem.W.krv_sliceRange, PySem.W.krv_range]
  rw [h, List.filterMap_reverse]
  have h2 := PySem.W.krv_all (S z).cps
  have e : (S z).cps.size = z.length := by simp [S]
  rw [e] at h2
  rw [h2, S_toList]
def tRevA (K : Frag) (te : L2.TE) : L2.TE := fun σ H Q => te σ H fun x H1 => (∃ a xs, x = .ref a ∧ SqL K H1 a xs ∧ ∀ p, H1 p = none → Q (.ref p) (upd H1 p (.lst xs.reverse))) ∨ (∃ z : List Nat, x = .str (S z) ∧ z.length ≤ sizeLine ∧ Q (.str (S z.reverse)) H1)
theorem pe_revA {e : Expr} {te : L2.TE} {k : Nat} {p1 p2 p3 pos : Pos} (he : PE X e te) : PE X (.Subscript e (.Slice none none (some (.UnaryOp .USub (.Constant (.int 1) k p1) p2)) p3) pos) (tRevA X.K te) := by
  refine ⟨fun pins s σ H Q I h => ?_⟩
  refine Subscript_ (thn (he.run pins s σ H _ I h) fun v s1 ⟨x, H1, I1, r1, q1⟩ => ?_)
  have hst : PO X (some (.UnaryOp .USub (.Constant (.int 1) k p1) p2)) (tPart (tUn (rU fun i => .int (-i)) (tC (.int 1)))) := po_some (pe_un un_neg pe_int)
  refine wpAny_Slice (thn (po_none.run pins s1 σ H1 (fun o H2 => o = none ∧ H2 = H1) I1 ⟨rfl, rfl⟩) fun vl s2 ⟨l, H2, I2, pl, el, e2⟩ => ?_)
  subst el e2
  refine thn (po_none.run pins s2 σ H2 (fun o H3 => o = none ∧ H3 = H2) I2 ⟨rfl, rfl⟩) fun vu s3 ⟨u, H3, I3, pu, eu, e3⟩ => ?_
  subst eu e3
  refine thn (hst.run pins s3 σ H3 (fun o H4 => o = some (-1) ∧ H4 = H3) I3 ⟨1, rfl, -1, rfl, rfl, rfl⟩) fun vs s4 ⟨o, H4, I4, ps, eo, e4⟩ => ?_
  subst eo e4
  have I5 : Inv X pins σ H4 { s4 with heap := s4.heap.push { cls := .type "slice", data := .fields #[vl, vu, vs] } } := I4.kept (t' := s4.toks) fun b ob q => Heap.get?_push_of_some _ q
  rcases q1 with ⟨a, xs, ex, hx, q⟩ | ⟨z, ex, hz, q⟩
  · subst ex
    cases r1
    obtain ⟨its, r, ht, hz⟩ := I5.list hx
    have hlen := r.length
    show wpAny (model X.prog X.w) X.A (subscriptTail e (.Slice none none (some (.UnaryOp .USub (.Constant (.int 1) k p1) p2)) p3) (.ref a) (.ref s4.heap.objs.size)) (EP X pins σ Q) X.xe { s4 with heap := s4.heap.push { cls := .type "slice", data := .fields #[vl, vu, vs] } }
    refine tail_any (ops := [.ref a, .ref s4.heap.objs.size]) ht.isList.typeIs (PySem.slot_list_getitem.lookup) ?_ (by with_unfolding_all rfl)
    refine wpAny_getItem_list_slice ht.isList (Heap.IsSliceOf.new _ vl vu vs) pl pu ps (by decide) ?_ (by rw [List.size_toArray]; omega)
    rw [PySem.W.krv_pick]
    refine ⟨.ref _, _, I5.laid (t' := s4.toks) (o := .lst xs.reverse) (fun b ob q => Heap.get?_push_of_some _ q) (Nat.le_refl _) ?_, rfl, q _ (I5.hok.fresh (Nat.le_refl _))⟩
    exact ⟨by rw [List.length_reverse]; exact hz, _, 0, r.reverse, Heap.get?_push_size _ rfl⟩
  · subst ex
    obtain ⟨t, rfl⟩ := r1
    show wpAny (model X.prog X.w) X.A (subscriptTail e (.Slice none none (some (.UnaryOp .USub (.Constant (.int 1) k p1) p2)) p3) (.str (S z) t) (.ref s4.heap.objs.size)) (EP X pins σ Q) X.xe { s4 with heap := s4.heap.push { cls := .type "slice", data := .fields #[vl, vu, vs] } }
    refine tail_any (ops := [.ref s4.heap.objs.size, .str (S z) t]) (typeIs_str _ _ _) (PySem.F.slot_str_getitem.lookup) ?_ (by with_unfolding_all rfl)
    obtain ⟨l, rfl, el⟩ := IsPart.raw pl
    obtain ⟨u, rfl, eu⟩ := IsPart.raw pu
    obtain ⟨st, rfl, est⟩ := IsPart.raw ps
    have hl0 : l = none := by cases l with | none => rfl | some p => cases el
    have hu0 : u = none := by cases u with | none => rfl | some p => cases eu
    subst hl0 hu0
    cases st with
    | none => cases est
    | some stp =>
      obtain ⟨sv, st⟩ := stp
      cases est
      refine wpAny_getItem_str_slice (l := none) (u := none) (st := some (-1, st)) ⟨_, Heap.get?_push_size _ rfl, rfl, rfl⟩ rfl ?_
      have hzl : (S z).length = z.length := S_length z
      have hrev : (⟨((Builtin.Str.strSliceIndices none none (-1) (S z).length).filterMap ((S z).cps[·]?)).toArray⟩ : Str) = S z.reverse := by
        rw [hzl, idx_rev]; rfl
      show Made.post (if ((-1 : Int) == 1 && (Builtin.Str.strSliceIndices none none (-1) (S z).length).length == (S z).length) = true then Made.val (.str (S z) t)
        else Made.str ⟨((Builtin.Str.strSliceIndices none none (-1) (S z).length).filterMap ((S z).cps[·]?)).toArray⟩) (EP X pins σ Q) _
      rw [if_neg (by simp), hrev]
      refine ⟨by rw [S_length, List.length_reverse]; exact hz, .str _, H4, I5.tok _, ⟨_, rfl⟩, q⟩
theorem pe3_rev {e : Expr} {te : TE} {k : Nat} {p1 p2 p3 : Pos} (he : PE3 X e te) : PE3 X (.Subscript e (.Slice none none (some (.UnaryOp .USub (.Constant (.int 1) k p1) p2)) p3) pos) (eRev te) := fun E tk => by
  obtain ⟨t, p, q⟩ := he E tk
  refine ⟨_, pe_revA p, fun σ H γ G Q3 Q hs hr h3 k => ?_⟩
  refine q σ H γ G _ _ hs hr h3 fun v H1 w G1 x1 r1 rv h3 => ?_
  cases w with
  | str z =>
    rw [rep_str1 rv]
    exact .inr ⟨z, rfl, by rw [sz_eq]; exact h3.1, k _ H1 _ G1 x1 r1 rstr h3.2⟩
  | ref a =>
    cases e : G1 a with
    | none => simp only [e] at h3
    | some o =>
      cases o with
      | lst ws =>
        simp only [e] at h3
        obtain ⟨xs, s1, s2⟩ := r1.lst e
        rw [rep_ref1 rv]
        refine .inl ⟨a, xs, rfl, .inl (.inl s1), fun p hp => ?_⟩
        exact k _ _ _ _ (x1.trans (.new hp)) (r1.new (o := .lst ws.reverse) hp ⟨_, upd_same, s2.reverse.ext (.new hp)⟩) rref (h3 p (r1.free hp))
      | _ => simp only [e] at h3
  | _ => exact h3.elim
end
end L3

end
section
/-! L3SndKF: try .. finally (mode C alone). -/
namespace L3
open PySem PySem.Spec PyProof.Rows L2
section
variable {X : Cx} {body : List Stmt} {f₀ : Stmt} {fs : List Stmt} {pos : Pos} {tb : WX → L2.TS} {tf tfs : L2.TS} {Wout : WX}
theorem ps_bodyFin (hs : X.stack = X.env :: X.outer) (hf : X.env.frame = some X.env.locals) (hex : X.ex = []) (tk : Takes X Wout)
    (hb : ∀ (W : WX) (pn : List (Addr × Obj)) (xe : Value → Shared → Prop), Takes (X.tr pn xe) W → PassesOwn (model X.prog X.w) X.A X.env xe → PSs (X.tr pn xe) body (tb W))
    (hfin : PSs X.nox (f₀ :: fs) tf) (hsu : ∀ (a : Addr) (pn : List (Addr × Obj)), PSs (X.suite a pn) (f₀ :: fs) tfs) :
    PS X (.Try body [] [] (f₀ :: fs) pos) (fun D σ H => tb (wFin tfs Wout) { nx := fun σ' H' => tf D σ' H', rt := fun _ _ => False } σ H) := by
  refine ⟨fun pins s σ H D I h => ?_⟩
  have ok := I.ok
  refine wpAny_Try_finally ?_
  refine wpAny_mono ((hb (wFin tfs Wout) (X.pn ++ pins) (fun x s₁ => wpAny (model X.prog X.w) X.A (noteFrame x X.env) (fun _ s₂ => FinallyRaised X.prog X.w X.A X.xe X.env (f₀ :: fs) (SP X pins D) x s₂) (FinallyRaised X.prog X.w X.A X.xe X.env (f₀ :: fs) (SP X pins D)) s₁)
    (fun u s' xx => ?_) PassesOwn.looking).run [] s σ H { nx := fun σ' H' => tf D σ' H', rt := fun _ _ => False } (I.toTry _) h) (fun g s1 z => ?_) (fun x s1 hx => hx)
  · exact fin_exc hs hf hex ok tk hsu xx
  · cases g with
    | next =>
      obtain ⟨σ', H', I1, q1⟩ := z
      refine wpAny_execs_nil ?_
      refine wpAny_mono (hfin.run pins s1 σ' H' D ((I1.ofTry ok).wish _) q1) (fun g s2 q => ?_) fun _ _ z => False.elim z
      have q' : SP X pins D g s2 := q.unwish
      cases g with
      | next => exact q'
      | ret u => exact q'
      | brk => exact q'
      | cont => exact q'
    | ret u => obtain ⟨_, _, _, _, _, q⟩ := z; exact q.elim
    | brk => obtain ⟨_, _, _, q⟩ := z; exact q.elim
    | cont => obtain ⟨_, _, _, q⟩ := z; exact q.elim
theorem ps3_fin {tb3 tf3 : TS} (hs : X.stack = X.env :: X.outer) (hf : X.env.frame = some X.env.locals) (hex : X.ex = [])
    (hb : ∀ pn xe, PassesOwn (model X.prog X.w) X.A X.env xe → PSs3 (X.tr pn xe) body tb3) (hn : PSs3 X.nox (f₀ :: fs) tf3) (hu : ∀ a pn, PSs3 (X.suite a pn) (f₀ :: fs) tf3) :
    PS3 X (.Try body [] [] (f₀ :: fs) pos) (sFin tb3 tf3) := fun E tk => by
  let wb : WX → L2.TS := fun W D σ H => ∃ γ G D3, (∀ cls d σ' H', Ext X.K H H' → lowX X.K ⟨D3.ex, H⟩ cls d σ' H' → W cls d σ' H') ∧ EndsOk X.K H H D3 D ∧ RepS X.K H H γ σ ∧ Rel X.K H G ∧ tb3 D3 γ G
  let wf : L2.TS := fun D σ H => ∃ Z0 γ G D3, EndsOk X.K Z0 H D3 D ∧ RepS X.K Z0 H γ σ ∧ Rel X.K H G ∧ tf3 { D3 with ex := fun _ => X0 } γ G
  have fin : ∀ {Y : Cx}, Y.K = X.K → PSs3 Y (f₀ :: fs) tf3 → PSs Y (f₀ :: fs) wf := fun {Y} eK h => ⟨fun pins s σ H D I hw => by
    obtain ⟨Z0, γ, G, D3, hends, hr1, hr2, h3⟩ := hw
    obtain ⟨t, p, q⟩ := h ⟨fun _ => X0, Z0⟩ (takes0E Z0)
    exact p.run pins s σ H D I (q D { D3 with ex := fun _ => X0 } σ H γ G rfl (by rw [eK]; exact ⟨hends.nx, hends.rt, hends.bk, hends.ct⟩) (by rw [eK]; exact hr1) (by rw [eK]; exact hr2) h3)⟩
  refine ⟨_, ps_bodyFin (tb := wb) (tf := wf) (tfs := wf) hs hf hex tk (fun W pn xe tkW hp => ⟨fun pins s σ H D I hw => ?_⟩) (fin rfl hn) (fun a pn => fin rfl (hu a pn)), fun D D3 σ H γ G he ho hsg hr h3 => ?_⟩
  · obtain ⟨γ, G, D3, hle, hends, hr1, hr2, h3⟩ := hw
    have tk' : TakesE (X.tr pn xe) ⟨D3.ex, H⟩ := Takes.imp tkW fun cls d σ' H' z => by
      obtain ⟨γ', G', w, es, q1, q2, q3, q4, q5⟩ := z
      exact hle cls d σ' H' q1.x ⟨γ', G', w, es, q1, q2, q3, q4, q5⟩
    obtain ⟨t, p, q⟩ := hb pn xe hp ⟨D3.ex, H⟩ tk'
    exact p.run pins s σ H D I (q D D3 σ H γ G rfl hends hr1 hr2 h3)
  · refine ⟨γ, G, { nx := fun γ' G' => tf3 { D3 with ex := fun _ => X0 } γ' G', rt := fun w G' => False, ex := fun γ' w es G' => es = [] ∧ tf3 { nx := fun γ2 G2 => D3.ex γ2 w es G2, rt := fun _ _ => False, ex := fun _ => X0 } γ' G' }, fun cls d σ' H' x' z => ?_, ?_, ⟨hsg.f, .refl⟩, hr, h3⟩
    · obtain ⟨γ', G', w, es, q1, q2, q3, q4, rfl, q5⟩ := z
      have ed : d = none := by
        rcases q4 with ⟨e, _⟩ | ⟨_, _, z, _⟩
        · exact e
        · exact absurd rfl z
      refine ⟨E.h0, γ', G', { nx := fun γ2 G2 => D3.ex γ2 w [] G2, rt := fun _ _ => False, ex := fun _ => X0 }, ⟨fun σ2 H2 γ2 G2 y r rl z => ?_, fun _ _ _ _ _ _ _ z => z.elim, fun _ _ _ _ _ _ _ z => z.elim, fun _ _ _ _ _ _ _ z => z.elim⟩, ⟨q1.f, (hsg.x.trans x').trans .refl⟩, q2, q5⟩
      exact ⟨γ2, G2, w, [], r, rl, q3, .inl ⟨ed, rfl⟩, by rw [← he]; exact z⟩
    · refine ⟨fun σ' H' γ' G' y r q z => ?_, fun _ _ _ _ _ _ _ z => z.elim, fun _ _ _ _ _ _ _ z => z.elim, fun _ _ _ _ _ _ _ z => z.elim⟩
      exact ⟨E.h0, γ', G', D3, ho.ext y, ⟨r.f, hsg.x.trans y⟩, q, z⟩
end
end L3

end
section
/-! L3SndL: a dict's keys, walked while it is locked. -/
namespace L3
open PySem PySem.Spec PyProof.Rows L2
section
variable {X : Cx} {tg : Expr}
theorem keyW_get {κ : Type} {f : κ → W} {K : Frag} {H : Hp} : ∀ {ws : List (W × W)} {ks : List (κ × V)}, RepKV f K H ws ks → ∀ (i : Nat) (w : W), (ws.map (·.1))[i]? = some w → ∃ p, ks[i]? = some p ∧ w = f p.1
  | [], _, _, i, w, e => by simp at e
  | x :: ws, _, h, i, w, e => by
    obtain ⟨v, r, rfl, a, b, c⟩ := h
    cases i with
    | zero =>
      simp at e
      exact ⟨v, rfl, by rw [← e, a]⟩
    | succ i =>
      simp only [List.map_cons, List.getElem?_cons_succ] at e ⊢
      exact keyW_get c i w e
theorem rep_keyW {K : Frag} {H : Hp} (k : Key) : Rep K H (keyW k) (kV k) := by
  cases k with
  | inl i => exact rint
  | inr x => simp only [keyW, kV, Rep]
theorem repl_keyW {K : Frag} {H : Hp} : ∀ l : List Key, RepL K H (l.map keyW) (l.map kV)
  | [] => .nil
  | k :: l => .cons (rep_keyW k) (repl_keyW l)
theorem kItems_rd {G : Gh} {a : Nat} {all : List W} (e : kItems a G = some all) : ∃ kvs, (G a = some (.rdc kvs) ∨ G a = some (.rdt kvs)) ∧ all = kvs.map (·.1) := by
  unfold kItems at e
  cases q : G a with
  | none => rw [q] at e; cases e
  | some o =>
    rw [q] at e
    cases o with
    | rdc kvs => cases e; exact ⟨kvs, .inl rfl, rfl⟩
    | rdt kvs => cases e; exact ⟨kvs, .inr rfl, rfl⟩
    | _ => cases e
theorem simIt_keysK {K : Frag} {H0 : Hp} {a : Addr} {o : Obj} {ks : List (Key × V)} (h0 : H0 a = some (.frz o (.dK ks))) : SimIt K H0 (Itk a o ks) (kItems a) := by
  intro i H G all x r e
  have hH : H a = some (.frz o (.dK ks)) := (x a []).2.2 _ _ h0
  obtain ⟨kvs, q, rfl⟩ := kItems_rd e
  have rk : RepKV keyW K H kvs ks := by
    rcases q with q | q
    · obtain ⟨o', ks', e1, e2⟩ := r a _ q
      rw [hH] at e1; cases e1
      exact e2
    · obtain ⟨o', ks', e1, e2⟩ := r a _ q
      rw [hH] at e1; cases e1
  refine ⟨fun w ew => ?_, fun hl => ⟨hH, by rw [List.length_map, rk.length] at hl; exact hl⟩⟩
  obtain ⟨p, e1, e2⟩ := keyW_get rk i w ew
  refine ⟨⟨hH, (List.getElem?_eq_some_iff.mp e1).1⟩, fun z H' hy => ?_⟩
  obtain ⟨rfl, k, v, e3, rfl⟩ := hy
  rw [e1] at e3; cases e3
  rw [e2]
  exact ⟨.refl, r, rep_keyW k⟩
theorem simIt_keysT {K : Frag} {H0 : Hp} {a : Addr} {o : Obj} {ks : List (List Key × V)} (h0 : H0 a = some (.frz o (.dT ks))) : SimIt K H0 (Itkt a o ks) (kItems a) := by
  intro i H G all x r e
  have hH : H a = some (.frz o (.dT ks)) := (x a []).2.2 _ _ h0
  obtain ⟨kvs, q, rfl⟩ := kItems_rd e
  have rk : RepKV (fun k => W.tup (k.map keyW)) K H kvs ks := by
    rcases q with q | q
    · obtain ⟨o', ks', e1, e2⟩ := r a _ q
      rw [hH] at e1; cases e1
    · obtain ⟨o', ks', e1, e2⟩ := r a _ q
      rw [hH] at e1; cases e1
      exact e2
  refine ⟨fun w ew => ?_, fun hl => ⟨hH, by rw [List.length_map, rk.length] at hl; exact hl⟩⟩
  obtain ⟨p, e1, e2⟩ := keyW_get rk i w ew
  refine ⟨⟨hH, (List.getElem?_eq_some_iff.mp e1).1⟩, fun z H' hy => ?_⟩
  obtain ⟨rfl, k, v, q, e3, rfl, e4⟩ := hy
  rw [e1] at e3; cases e3
  rw [e2]
  refine ⟨.refl, r, ?_⟩
  simp only [Rep]
  exact ⟨q, _, rfl, e4, repl_keyW k⟩
theorem pi3_keys {e : Expr} {te : TE} (he : PE3 X e te) : PI3 X tg e (iKeys te) := fun E tk => by
  obtain ⟨t, p, q⟩ := he E tk
  refine ⟨_, pi_keys p, fun σ H γ G R3 R hs hr h3 k => ?_⟩
  refine q σ H γ G _ _ hs hr h3 fun v H1 w G1 x1 r1 rv h3 => ?_
  cases w with
  | ref a =>
    rw [rep_ref1 rv]
    cases e : G1 a with
    | none => simp only [e] at h3
    | some o =>
      cases o with
      | rdc kvs =>
        simp only [e] at h3
        obtain ⟨o', ks, e1, e2⟩ := r1 a _ e
        exact ⟨a, o', rfl, .inl ⟨ks, e1, k _ _ H1 G1 x1 r1 (simIt_keysK e1) h3⟩⟩
      | rdt kvs =>
        simp only [e] at h3
        obtain ⟨o', ks, e1, e2⟩ := r1 a _ e
        exact ⟨a, o', rfl, .inr ⟨ks, e1, k _ _ H1 G1 x1 r1 (simIt_keysT e1) h3⟩⟩
      | _ => simp only [e] at h3
  | _ => exact h3.elim
theorem Ext.unlock {K : Frag} {H H1 : Hp} {d : Addr} {od : Obj} {u : HO} (h : H d = some u) (mu : Mut (some u)) (x : Ext K (upd H d (.frz od u)) H1) : Ext K H (upd H1 d u) := fun a xs => by
  by_cases e : a = d
  · subst e
    refine ⟨fun q => ?_, fun q => by rw [h] at q; cases q; exact mu.elim, fun o v q => by rw [h] at q; cases q; exact mu.elim⟩
    rcases q with (q | ⟨o, q⟩) | q
    · rw [h] at q; cases q; exact mu.elim
    · rw [h] at q; cases q; exact mu.elim
    · exact .inr q
  · have y := x a xs
    have e1 : upd H d (.frz od u) a = H a := upd_ne e
    have e2 : upd H1 d u a = H1 a := upd_ne e
    refine ⟨fun q => ?_, fun q => ?_, fun o v q => ?_⟩
    · have q2 : SqT K (upd H d (.frz od u)) a xs := by
        rcases q with (q | ⟨o, q⟩) | q
        · exact .inl (.inl (e1.trans q))
        · exact .inl (.inr ⟨o, e1.trans q⟩)
        · exact .inr q
      rcases y.1 q2 with (q | ⟨o, q⟩) | q
      · exact .inl (.inl (e2.trans q))
      · exact .inl (.inr ⟨o, e2.trans q⟩)
      · exact .inr q
    · exact e2.trans (y.2.1 (e1.trans q))
    · exact e2.trans (y.2.2 o v (e1.trans q))
theorem kpt_unlock {H1 : Hp} {d : Addr} {od : Obj} {u : HO} (h : H1 d = some (.frz od u)) : KpT H1 (upd H1 d u) := fun a xs q => by
  rw [upd_ne (fun z => by rw [z, h] at q; cases q)]
  exact q
theorem rel_unlock {K : Frag} {H1 : Hp} {G1 : Gh} {d : Addr} {od : Obj} {u : HO} {o : O} (h : H1 d = some (.frz od u)) (r : Rel K H1 G1) (q : RelO K (upd H1 d u) d o) : Rel K (upd H1 d u) (up G1 d o) := fun b v e => by
  by_cases hb : b = d
  · subst hb; rw [up_same] at e; cases e; exact q
  · rw [up_ne hb] at e
    exact (r b v e).extT (kpt_unlock h) (upd_ne hb)
theorem lock_sim {K : Frag} {H0 : Hp} {E : Fr → XQ} {t : L2.TS} {t3 : TS} {D : L2.Ends} {D3 : Ends} {σ : St} {H : Hp} {γ : Fr} {G : Gh} {a : Addr} {u : HO} {lo un : O} (q : SimS K H0 E t t3) (hE : D3.ex = E) (ho : EndsOk K H0 H D3 D) (hs : RepS K H0 H γ σ) (hr : Rel K H G) (ha : H a = some u) (mu : Mut (some u))
    (rl : ∀ od H', Ext K H H' → H' a = some (.frz od u) → RelO K H' a lo) (ru : ∀ H', KpT H H' → H' a = some u → RelO K H' a un) (h3 : t3 (lockD a lo un D3) γ (up G a lo)) : tLock t D σ H := by
  refine ⟨a, u, ha, mu, fun od => ?_⟩
  have mH : Mut (H a) := by rw [ha]; exact mu
  have x1 : Ext K H (upd H a (.frz od u)) := .write mH
  have r1 : Rel K (upd H a (.frz od u)) (up G a lo) := hr.write mH (rl od _ x1 upd_same)
  have hz : ∀ H', Ext K (upd H a (.frz od u)) H' → H' a = some (.frz od u) := fun H' x => (x a []).2.2 _ _ upd_same
  have back : ∀ H' G', Ext K (upd H a (.frz od u)) H' → Rel K H' G' → Ext K H (upd H' a u) ∧ Rel K (upd H' a u) (up G' a un) := fun H' G' x r => ⟨.unlock ha mu x, rel_unlock (hz H' x) r (ru _ (fun b xs e => kpt_unlock (hz H' x) b xs ((x.t b xs) (x1.t b xs e))) upd_same)⟩
  have bs : ∀ σ' H' γ', Ext K (upd H a (.frz od u)) H' → RepS K H0 H' γ' σ' → RepS K H0 (upd H' a u) γ' σ' := fun σ' H' γ' x s => ⟨s.f.extT (kpt_unlock (hz H' x)), hs.x.trans (.unlock ha mu x)⟩
  refine q _ (lockD a lo un D3) σ _ γ _ hE ⟨fun σ' H' γ' G' x s r k => ?_, fun v H' w G' x r rv k => ?_, fun σ' H' γ' G' x s r k => ?_, fun σ' H' γ' G' x s r k => ?_⟩ (hs.ext x1) r1 h3
  · exact ⟨hz H' x, ho.nx _ _ _ _ (back H' G' x r).1 (bs _ _ _ x s) (back H' G' x r).2 k.2⟩
  · exact ⟨hz H' x, ho.rt _ _ _ _ (back H' G' x r).1 (back H' G' x r).2 (rv.extT (kpt_unlock (hz H' x))) k.2⟩
  · exact ⟨hz H' x, ho.bk _ _ _ _ (back H' G' x r).1 (bs _ _ _ x s) (back H' G' x r).2 k.2⟩
  · exact ⟨hz H' x, ho.ct _ _ _ _ (back H' G' x r).1 (bs _ _ _ x s) (back H' G' x r).2 k.2⟩
theorem ps3_lock {st : Stmt} {t : TS} (h : PS3 X st t) : PS3 X st (sLock t) := fun E tk => by
  obtain ⟨t2, p, q⟩ := h E tk
  refine ⟨tLock t2, ps_lock p, fun D D3 σ H γ G hE ho hs hr h3 => ?_⟩
  obtain ⟨a, kvs, h3⟩ := h3
  rcases h3 with ⟨e, h3⟩ | ⟨e, h3⟩
  · obtain ⟨ks, ha, rk⟩ := hr a _ e
    exact lock_sim (lo := .rdc kvs) (un := .dct kvs) q hE ho hs hr ha trivial (fun od H' x z => ⟨od, ks, z, rk.ext x⟩) (fun H' x z => ⟨ks, z, rk.extT x⟩) h3
  · obtain ⟨ks, ha, rk⟩ := hr a _ e
    exact lock_sim (lo := .rdt kvs) (un := .dtt kvs) q hE ho hs hr ha trivial (fun od H' x z => ⟨od, ks, z, rk.ext x⟩) (fun H' x z => ⟨ks, z, rk.extT x⟩) h3
end
end L3

end
section
/-! L3SndM: sorted of key tuples. -/
namespace L3
open PySem PySem.Spec PyProof.Rows L2
def keyD : Key → PyData
  | .inl i => .int i
  | .inr x => .str x
def kindK : Key → Bool
  | .inl _ => true
  | .inr _ => false
def encK (k : List Key) : PyData := .tuple (k.map keyD)
/-- the keys can be compared with one another -/
def AlikeK (ks : List (List Key)) : Prop := ∃ sh : List Bool, sh ≠ [] ∧ ∀ k ∈ ks, k.map kindK = sh
theorem alike_keyD : ∀ {k k' : Key}, kindK k = kindK k' → PySem.W.alike (keyD k) (keyD k') = true
  | .inl _, .inl _, _ => rfl
  | .inr _, .inr _, _ => rfl
  | .inl _, .inr _, h => by cases h
  | .inr _, .inl _, h => by cases h
theorem alike_keys : ∀ {k k' : List Key}, k.map kindK = k'.map kindK → PySem.W.alikeAll (k.map keyD) (k'.map keyD) = true
  | [], k', _ => by simp [PySem.W.alikeAll]
  | _ :: _, [], h => by cases h
  | x :: k, y :: k', h => by
    rw [List.map_cons, List.map_cons, List.cons.injEq] at h
    show (PySem.W.alike (keyD x) (keyD y) && PySem.W.alikeAll (k.map keyD) (k'.map keyD)) = true
    rw [alike_keyD h.1, alike_keys h.2]; rfl
theorem AlikeK.all {ks : List (List Key)} (h : AlikeK ks) : PySem.W.AllAlike (ks.map encK) := by
  obtain ⟨sh, _, h⟩ := h
  intro d hd d' hd'
  obtain ⟨k, hk, rfl⟩ := List.mem_map.mp hd
  obtain ⟨k', hk', rfl⟩ := List.mem_map.mp hd'
  show PySem.W.alikeAll (k.map keyD) (k'.map keyD) = true
  exact alike_keys ((h k hk).trans (h k' hk').symm)
theorem AlikeK.srt {ks : List (List Key)} (h : AlikeK ks) : PySem.W.Sortable (ks.map encK) := by
  obtain ⟨sh, hn, h⟩ := h
  refine .inl fun d hd => ?_
  obtain ⟨k, hk, rfl⟩ := List.mem_map.mp hd
  cases k with
  | nil => exact absurd (h [] hk).symm hn
  | cons x k => exact ⟨keyD x, k.map keyD, rfl⟩
theorem depth_keys : ∀ k : List Key, PyData.depthAll (k.map keyD) = 0
  | [] => by simp [PyData.depthAll]
  | x :: k => by
    rw [List.map_cons, PyData.depthAll, depth_keys k]
    cases x <;> simp [keyD, PyData.depth]
theorem reads_key {h : Heap} : ∀ {k : Key} {v : Value}, RelV (kV k) v → Reads h v (keyD k) []
  | .inl i, v, r => by obtain ⟨t, rfl⟩ := r; exact .int i t
  | .inr x, v, r => by obtain ⟨t, rfl⟩ := r; exact .str x t
theorem reads_keys {h : Heap} : ∀ {k : List Key} {vs : List Value}, Vals (k.map kV) vs → ReadsAll h vs (k.map keyD) []
  | [], _, r => by cases r; exact .nil
  | x :: k, _, r => by
    cases r with
    | cons a b => exact ReadsAll.cons (as := []) (bs := []) (reads_key a) (reads_keys b)
section
variable {X : Cx} {pins : List (Addr × Obj)} {σ : St} {H : Hp} {s : Shared}
theorem reads_keyT {q : Addr} {k : List Key} (I : Inv X pins σ H s) (hq : H q = some (.tup (k.map kV))) : Reads s.heap (.ref q) (encK k) [] := by
  obtain ⟨_, its, r, o, ho, hc, n, hd⟩ := I.hok _ _ hq
  exact reads_tuple_at ho hc hd (by rw [List.toList_toArray]; exact reads_keys r)
def KeyAt (H : Hp) (v : Value) (k : List Key) : Prop := ∃ q, v = .ref q ∧ H q = some (.tup (k.map kV))
theorem keyAt_refs : ∀ {out : List Value} {ks : List (List Key)}, PySem.W.EachIs (KeyAt H) out ks → ∃ bs : List Addr, out = bs.map Value.ref ∧ Paired (fun k b => H b = some (.tup (k.map kV))) ks bs
  | _, _, .nil => ⟨[], rfl, .nil⟩
  | _, _, .cons h t => by
    obtain ⟨q, rfl, e⟩ := h
    obtain ⟨bs, rfl, p⟩ := keyAt_refs t
    exact ⟨q :: bs, rfl, .cons e p⟩
theorem keyAt_of : ∀ {ks : List (List Key)} {bs : List Addr}, Paired (fun k b => H b = some (.tup (k.map kV))) ks bs → PySem.W.EachIs (KeyAt H) (bs.map Value.ref) ks
  | _, _, .nil => .nil
  | _, _, .cons h t => .cons ⟨_, rfl, h⟩ (keyAt_of t)
theorem sort_perm {ks : List (List Key)} : (ks.mergeSort (PySem.W.dataLe false encK)).Perm ks := List.mergeSort_perm ks _
theorem mem_paired {ks : List (List Key)} {bs : List Addr} (p : Paired (fun k b => H b = some (.tup (k.map kV))) ks bs) : ks.length = bs.length := Paired.length p
/-- sorted of a list of key tuples -/
theorem cr_sortedL (hu : X.A.units + 65 < cLine) : CallR X (.builtin "sorted") (fun xs H Q => ∃ (a : Addr) (ks : List (List Key)) (bs : List Addr), xs = [V.ref a] ∧ SqL X.K H a (bs.map V.ref) ∧ Paired (fun k b => H b = some (.tup (k.map kV))) ks bs ∧ AlikeK ks ∧
    ∀ p ks' bs', H p = none → ks'.Perm ks → Paired (fun k b => H b = some (.tup (k.map kV))) ks' bs' → Q (.ref p) (upd H p (.lst (bs'.map V.ref)))) := by
  intro pins s σ H xs us Q I r h
  obtain ⟨a, ks, bs, rfl, hs, pr, al, q⟩ := h
  obtain ⟨its, rv, hl, hz⟩ := I.list hs
  obtain ⟨u, rfl, ru⟩ := r.one
  cases ru
  have ei : its = bs.map Value.ref := by
    obtain ⟨e1, e2⟩ := refs_back rv fun x m => by
      obtain ⟨b, _, rfl⟩ := List.mem_map.mp m
      exact ⟨b, rfl⟩
    have : ∀ {vs : List Value} {bs : List Addr}, Vals (bs.map V.ref) vs → vs = bs.map Value.ref := by
      intro vs bs h
      induction bs generalizing vs with
      | nil => cases h; rfl
      | cons b bs ih =>
        cases h with
        | cons x y => cases x; rw [List.map_cons, ih y]
    exact this rv
  subst ei
  have ek := keyAt_of pr
  have er : PySem.W.EachIs (fun v k => ∃ as, Reads s.heap v (encK k) as) (bs.map Value.ref) ks := ek.mono fun v k ⟨q, e, hq⟩ => ⟨[], by rw [e]; exact reads_keyT I hq⟩
  have hlen : ks.length = bs.length := mem_paired pr
  have hz' : ks.length ≤ sizeLine := by rw [hlen]; rw [List.length_map] at hz; exact hz
  refine PySem.W.sorted_data (R := KeyAt H) (enc := encK) (bs := ks) hl.isList ek er al.all al.srt hz' (fun k hk => ?_) fun out ho e => ?_
  · show X.A.units + 2 + PyData.depth (.tuple (k.map keyD)) < cLine
    rw [PyData.depth, depth_keys]
    omega
  · obtain ⟨bs', rfl, p'⟩ := keyAt_refs e
    obtain ⟨kp, n, hn⟩ : (∀ b u, s.heap.get? b = some u → (sortedAll s.heap (bs.map Value.ref) (List.toArray (bs'.map Value.ref))).get? b = some u) ∧ ∃ n, (sortedAll s.heap (bs.map Value.ref) (List.toArray (bs'.map Value.ref))).get? (s.heap.objs.size + 1) = some (seqObj "list" (List.toArray (bs'.map Value.ref)) n) := ⟨fun b o e => sortedAll_old e, sortedAll_at _ _ _⟩
    refine ⟨.ref (s.heap.objs.size + 1), _, I.laid (t' := s.toks) (o := .lst (bs'.map V.ref)) kp (Nat.le_succ _) ?_, rfl, q _ _ _ (I.hok.fresh (Nat.le_succ _)) sort_perm p'⟩
    exact ⟨by rw [List.length_map]; have := mem_paired p'; have := (sort_perm (ks := ks)).length_eq; omega, bs'.map Value.ref, n, vals_refs _, hn⟩
/-- sorted of a dict with tuple keys -/
theorem cr_sortedD (hc : X.calm = true) (hu : X.A.units + 65 < cLine) : CallR X (.builtin "sorted") (fun xs H Q => ∃ d kvs, xs = [V.ref d] ∧ Rd H d (.dT kvs) ∧ AlikeK (kvs.map (·.1)) ∧
    ∀ p ks' bs', H p = none → ks'.Perm (kvs.map (·.1)) → Paired (fun k b => H b = some (.tup (k.map kV))) ks' bs' → Q (.ref p) (upd H p (.lst (bs'.map V.ref)))) := by
  intro pins s σ H xs us Q I r h
  obtain ⟨d, kvs, rfl, hd, al, q⟩ := h
  obtain ⟨u, rfl, ru⟩ := r.one
  cases ru
  obtain ⟨z, hs, ks, pr, o, es, ep, ho, hx, hdt, he, hn⟩ := (show ObjOk X.prog X.w H s.heap d (.dT kvs) from hd.ok I.hok)
  have l1 : es.size = ks.length := size_of_entries he
  have l2 : kvs.length = ks.length := Paired.length pr
  refine Calls.call_function_entry kind_sorted plain_sorted entry_sorted (args_sorted1 _) ?_
  unfold Builtin.«sorted»
  refine wpAny_bind (m := checkCount "sorted" 1 1 _) (wpAny_pure ?_)
  refine wpAny_bind (PySem.W.kdu_collect (A := X.A.in1) (kdl_raw hs hx hdt) (I.ok.hd hc) ho (by omega) fun h' tk acc hk it => ?_)
  have ea : acc.toList = (ks.map fun x => x.2.1).map Value.ref := by
    have hl : acc.toList.length = ks.length := by rw [Array.length_toList, it.1]; exact l1
    rw [List.map_map]
    apply List.ext_getElem?
    intro j
    rw [List.getElem?_map]
    cases hj : acc.toList[j]? with
    | none =>
      have h1 := List.getElem?_eq_none_iff.mp hj
      rw [List.getElem?_eq_none (by omega)]
      all_goals rfl
    | some v =>
      obtain ⟨en, hen, hv⟩ := it.2 j v (by rw [← Array.getElem?_toList]; exact hj)
      have qe := entry_at he j
      rw [hen] at qe
      cases hb : ks[j]? with
      | none =>
        rw [hb] at qe
        exact nomatch (show some en = none from qe)
      | some b =>
        rw [hb] at qe
        have e2 : en = entryOfKey (tupleKind (mixKind X.prog X.w)) b := Option.some.inj qe
        rw [hv, e2]
        all_goals rfl
  have hpair : Paired (fun k b => H b = some (.tup (k.map kV))) (kvs.map (·.1)) (ks.map fun x => x.2.1) := by
    clear ea it hk hn he l1 l2 hd al q z
    induction pr with
    | nil => exact .nil
    | cons h t ih => exact .cons h.2.1 ih
  have hl : acc.toList.length = ks.length := by rw [ea, List.length_map, List.length_map]
  refine wpAny_bind (wpAny_newList ?_ (by rw [hl]; omega))
  have hk2 : ∀ b o, s.heap.get? b = some o → (h'.push { cls := .type "list", data := .seq acc.toList.toArray }).get? b = some o := fun b o e => Heap.get?_push_of_some _ (hk b o e)
  have I2 : Inv X pins σ H { s with heap := h'.push { cls := .type "list", data := .seq acc.toList.toArray }, toks := tk } := I.kept (t' := tk) hk2
  have hD : ({ s with heap := h'.push { cls := .type "list", data := .seq acc.toList.toArray }, toks := tk } : Shared).heap.get? h'.objs.size = some (seqObj "list" acc.toList.toArray 0) := Heap.get?_push_size _ rfl
  have ek : PySem.W.EachIs (KeyAt H) acc.toList (kvs.map (·.1)) := by rw [ea]; exact keyAt_of hpair
  have I1 : Inv X pins σ H { s with heap := h', toks := tk } := I.kept (t' := tk) hk
  have hg : wpAny (model X.prog X.w) X.A.in1 (call (.builtin "list.sort") [.ref h'.objs.size]) (fun _ s' => EP X pins σ Q (.ref h'.objs.size) s') X.xe { s with heap := h'.push { cls := .type "list", data := .seq acc.toList.toArray }, toks := tk } := by
    refine PySem.W.list_sort_data (R := KeyAt H) (enc := encK) (bs := kvs.map (·.1)) hD ek (ek.mono fun v k ⟨q, e, hq⟩ => ⟨[], by rw [e]; exact reads_keyT I2 hq, by simp⟩) al.all al.srt (by rw [List.length_map]; omega) (fun k hk => ?_) fun out ho e => ?_
    · show X.A.in1.units + 1 + PyData.depth (.tuple (k.map keyD)) < cLine
      have : X.A.in1.units = X.A.units + 1 := rfl
      rw [PyData.depth, depth_keys]
      omega
    · obtain ⟨bs', rfl, p'⟩ := keyAt_refs e
      obtain ⟨c, hc2⟩ := sortedHeap_at (vs := acc.toList) (out := List.toArray (bs'.map Value.ref)) hD
      have hkeep : ∀ b u, h'.get? b = some u → (sortedHeap (h'.push { cls := .type "list", data := .seq acc.toList.toArray }) h'.objs.size acc.toList (List.toArray (bs'.map Value.ref))).get? b = some u := fun b u e =>
        (sortedHeap_old (Nat.ne_of_lt (Heap.lt_size e)) (Heap.lt_size (Heap.get?_push_of_some _ e))).trans (Heap.get?_push_of_some _ e)
      refine ⟨.ref h'.objs.size, _, I1.laid (t' := tk) (o := .lst (bs'.map V.ref)) hkeep (Nat.le_refl _) ?_, rfl, q _ _ _ (I1.hok.fresh (Nat.le_refl _)) sort_perm p'⟩
      refine ⟨?_, bs'.map Value.ref, c, vals_refs _, hc2⟩
      rw [List.length_map]
      have h1 := mem_paired p'
      have h2 := (sort_perm (ks := kvs.map (·.1))).length_eq
      rw [List.length_map] at h2
      omega
  refine wpAny_bind (wpAny_holding (wpAny_mono hg (fun _ s' x => ?_) fun _ _ e => e))
  exact wpAny_pure ⟨_, rfl, x⟩
theorem keyOf_kinds : ∀ {k : List Key} {ws : List W}, k.map keyW = ws → ws.map kindW = (k.map kindK).map fun b => if b = true then 1 else 2
  | [], _, rfl => rfl
  | x :: k, _, rfl => by
    rw [List.map_cons, List.map_cons, List.map_cons, List.map_cons, keyOf_kinds (k := k) rfl]
    cases x <;> rfl
theorem kinds_inj : ∀ {a b : List Bool}, (a.map fun b => if b = true then 1 else 2 : List Nat) = b.map (fun b => if b = true then 1 else 2) → a = b
  | [], [], _ => rfl
  | [], _ :: _, h => by cases h
  | _ :: _, [], h => by cases h
  | x :: a, y :: b, h => by
    rw [List.map_cons, List.map_cons, List.cons.injEq] at h
    rw [kinds_inj h.2]
    cases x <;> cases y <;> simp at h ⊢
theorem alike_of {ks : List (List Key)} (h : sameK (ks.map fun k => W.tup (k.map keyW))) : AlikeK ks := by
  obtain ⟨sh, hn, h⟩ := h
  cases ks with
  | nil => exact ⟨[true], by simp, fun k hk => (nomatch hk)⟩
  | cons k ks =>
    have g : ∀ j ∈ k :: ks, (j.map kindK).map (fun b => if b = true then 1 else 2) = sh := fun j hj => by
      obtain ⟨ws, e, e2⟩ := h _ (List.mem_map.mpr ⟨j, hj, rfl⟩)
      cases e
      rw [← e2, keyOf_kinds rfl]
    refine ⟨k.map kindK, fun z => ?_, fun j hj => kinds_inj ((g j hj).trans (g k List.mem_cons_self).symm)⟩
    have := g k List.mem_cons_self
    rw [z] at this
    exact hn this.symm
theorem rep_keyT {K : Frag} {H : Hp} : ∀ {ks : List (List Key)} {bs : List Addr}, Paired (fun k b => H b = some (.tup (k.map kV))) ks bs → RepL K H (ks.map fun k => W.tup (k.map keyW)) (bs.map V.ref)
  | _, _, .nil => .nil
  | _, _, .cons h t => .cons (by simp only [Rep]; exact ⟨_, _, rfl, h, repl_keyW _⟩) (rep_keyT t)
theorem repKV_keys {K : Frag} {H : Hp} : ∀ {ws : List (W × W)} {ks : List (List Key × V)}, RepKV (fun k => W.tup (k.map keyW)) K H ws ks → ws.map (·.1) = (ks.map (·.1)).map fun k => W.tup (k.map keyW)
  | [], _, h => by cases h; rfl
  | w :: ws, _, h => by
    obtain ⟨v, r, rfl, a, b, c⟩ := h
    rw [List.map_cons, List.map_cons, List.map_cons, repKV_keys c, a]
theorem perm_keys {ks' ks : List (List Key)} (h : ks'.Perm ks) : (ks'.map fun k => W.tup (k.map keyW)).Perm (ks.map fun k => W.tup (k.map keyW)) := h.map _
theorem b_sorted {X : Cx} (hu : X.A.units + 65 < cLine) (hc : X.calm = true) : CallR3 X (.builtin "sorted") bSortd := by
  refine ⟨_, cr_sortedD hc hu, fun ws vs H G Q3 Q r rv h k => ?_⟩
  simp only [bSortd] at h
  split at h
  · rename_i a
    obtain ⟨v, rfl, e⟩ := repl1 rv
    rw [rep_ref1 e]
    split at h
    · rename_i kvs eq
      obtain ⟨ks, s1, s2⟩ := r a _ eq
      have ek := repKV_keys s2
      refine ⟨a, ks, rfl, .inl s1, alike_of (by rw [← ek]; exact h.1), fun p ks' bs' hp pm pr => ?_⟩
      refine k _ _ _ _ (.new hp) (r.new (o := .lst (ks'.map fun k => W.tup (k.map keyW))) hp ⟨_, upd_same, (rep_keyT pr).ext (.new hp)⟩) rref (h.2 p _ (r.free hp) ?_)
      rw [ek]
      exact perm_keys pm
    · exact h.elim
  · exact h.elim
end
end L3

end
section
/-! L3SndN: except C as e, and isinstance(e, c). -/
namespace L3
open PySem PySem.Spec PyProof.Rows L2
section
variable {X : Cx}
theorem ps3_tryAs {x n : Str} {i : Nat} {C : Addr} {B newId initId : String} {bm : List Value} {body suite : List Stmt} {b₀ : Stmt} {np pos pos' : Pos} {tb : TS} {th : Nat → TS} (c : ExCls X.K X.mg x C B newId initId bm) (hs : X.stack = X.env :: X.outer) (hf : X.env.frame = some X.env.locals) (hN : X.N.Nodup) (hi : X.N[i]? = some n) (hln : X.env.kindOf n = some .local) (hg : Gl X x)
    (hb : ∀ pn xe, PassesOwn (model X.prog X.w) X.A X.env xe → PSs3 (X.tr pn xe) body tb) (hh : ∀ (a : Addr) (oe : Obj) (pn : List (Addr × Obj)), Zc (.ref C) none oe → (∃ vs, oe.data = .fields vs) → HotM (X.suite a ((a, oe) :: pn)) → PSs3 (X.suite a ((a, oe) :: pn)) (b₀ :: suite) (th a)) (hdb : (x == ("__debug__" : Str)) = false := by decide) :
    PS3 X (.Try body [.ExceptHandler (some (.Name x np)) (some n) (b₀ :: suite) pos'] [] [] pos) (sTryAs C i tb th) := fun E tk => by
  let wb : WX → L2.TS := fun W D σ H => ∃ γ G D3, (∀ cls d σ' H', Ext X.K H H' → lowX X.K ⟨D3.ex, H⟩ cls d σ' H' → W cls d σ' H') ∧ EndsOk X.K H H D3 D ∧ RepS X.K H H γ σ ∧ Rel X.K H G ∧ tb D3 γ G
  let ws : Addr → Value → Option Addr → L2.TS := fun a cls d D σ H => cls = .ref C ∧ d = none ∧ ∃ Z0 γ G D3, EndsOk X.K Z0 H D3 D ∧ RepS X.K Z0 H γ σ ∧ Rel X.K H G ∧ th a { D3 with ex := fun _ => X0 } γ G
  refine ⟨_, ps_tryAsM (c := .ref C) (tb := wb) (ts := ws) hs hf hN hi hln ⟨hg, hdb, .inl c.mgC⟩ tk (fun W pn xe tkW hp => ⟨fun pins s σ H D I hw => ?_⟩) (fun a oe cls d pn hz hv hot => ⟨fun pins s σ H D I hw => ?_⟩), fun D D3 σ H γ G he ho hsg hr h3 => ?_⟩
  · obtain ⟨γ, G, D3, hle, hends, hr1, hr2, h3⟩ := hw
    have tk' : TakesE (X.tr pn xe) ⟨D3.ex, H⟩ := tkM_imp tkW fun cls d σ' H' z => by
      obtain ⟨γ', G', w, es, q1, q2, q3, q4, q5⟩ := z
      exact hle cls d σ' H' q1.x ⟨γ', G', w, es, q1, q2, q3, q4, q5⟩
    obtain ⟨t, p, q⟩ := hb pn xe hp ⟨D3.ex, H⟩ tk'
    exact p.run pins s σ H D I (q D D3 σ H γ G rfl hends hr1 hr2 h3)
  · obtain ⟨rfl, rfl, Z0, γ, G, D3, hends, hr1, hr2, h3⟩ := hw
    obtain ⟨t, p, q⟩ := hh a oe pn hz hv hot ⟨fun _ => X0, Z0⟩ (takes0E Z0)
    exact p.run pins s σ H D I (q D { D3 with ex := fun _ => X0 } σ H γ G rfl ⟨hends.nx, hends.rt, hends.bk, hends.ct⟩ hr1 hr2 h3)
  · refine ⟨γ, G, { D3 with ex := fun γ' w es G' => (match w with | .ref c => c = C ∧ es = [] ∧ ∀ a, G' a = none → th a { nx := fun γ2 G2 => D3.nx (del γ2 i) G2, rt := D3.rt, bk := fun γ2 G2 => D3.bk (del γ2 i) G2, ct := fun γ2 G2 => D3.ct (del γ2 i) G2, ex := fun _ => X0 } (put γ' i (.ref a)) G' | _ => False) }, fun cls d σ' H' x' z => ?_, ?_, ⟨hsg.f, .refl⟩, hr, h3⟩
    · obtain ⟨γ', G', w, es, q1, q2, q3, q4, q5⟩ := z
      simp only at q5
      split at q5
      · obtain ⟨rfl, rfl, q5⟩ := q5
        cases q3
        have hd : d = none := by
          rcases q4 with ⟨q, _⟩ | ⟨_, _, q, _⟩
          · exact q
          · exact absurd rfl q
        refine ⟨true, c.te, fun _ a ha => ⟨rfl, hd, E.h0, put γ' i (.ref a), G', { nx := fun γ2 G2 => D3.nx (del γ2 i) G2, rt := D3.rt, bk := fun γ2 G2 => D3.bk (del γ2 i) G2, ct := fun γ2 G2 => D3.ct (del γ2 i) G2, ex := fun _ => X0 }, ?_, ?_, q2, q5 a (q2.free ha)⟩, fun z => nomatch z⟩
        · have ho' := ho.ext x'
          exact ⟨fun σ2 H2 γ2 G2 y r q z => ho'.nx _ H2 _ G2 y r.del q z, ho'.rt, fun σ2 H2 γ2 G2 y r q z => ho'.bk _ H2 _ G2 y r.del q z, fun σ2 H2 γ2 G2 y r q z => ho'.ct _ H2 _ G2 y r.del q z⟩
        · exact RepS.put ⟨q1.f, hsg.x.trans x'⟩ rref
      · exact q5.elim
    · exact ⟨fun σ' H' γ' G' y r q z => ho.nx σ' H' γ' G' y ⟨r.f, hsg.x.trans y⟩ q z, ho.rt, fun σ' H' γ' G' y r q z => ho.bk σ' H' γ' G' y ⟨r.f, hsg.x.trans y⟩ q z, fun σ' H' γ' G' y r q z => ho.ct σ' H' γ' G' y ⟨r.f, hsg.x.trans y⟩ q z⟩
/-- isinstance of a caught error -/
theorem b_isE {a D : Addr} {oe : Obj} {pn : List (Addr × Obj)} {c : W} {cv : Value} {b : Bool} (C : ExcC X.K D) (hz : Zc (.ref D) none oe) (hf : ∃ vs, oe.data = .fields vs) (hc : ∀ H v, Rep X.K H c v → ∀ u, RelV v u → u = cv) (hk : PySem.W.kitOne X.K (.ref D) cv = some b) : CallR3 (X.suite a ((a, oe) :: pn)) (.builtin "isinstance") (bIsE a c b) := by
  refine ⟨_, call_isE C hz hf, fun ws vs H G Q3 Q r rv h k => ?_⟩
  simp only [bIsE] at h
  split at h
  · obtain ⟨rfl, rfl, h⟩ := h
    obtain ⟨v, u, rfl, r1, r2⟩ := repl2 rv
    rw [rep_ref1 r1]
    exact ⟨u, cv, b, rfl, hc H u r2, hk, k _ _ _ _ .refl r rbl h⟩
  · exact h.elim
theorem isC_ref {K : Frag} {b : Nat} : ∀ H v, Rep K H (.ref b) v → ∀ u, RelV v u → u = Value.ref b := fun H v r u e => by
  rw [rep_ref1 r] at e
  exact e
theorem isC_ty {K : Frag} {t : String} : ∀ H v, Rep K H (.ty t) v → ∀ u, RelV v u → u = Value.type t := fun H v r u e => by
  simp only [Rep] at r
  subst r
  exact e
theorem o_isl : OpR3 X (compareOp .Is) rIsL := by
  refine ⟨_, op_is_bl, fun x y v u H G Q3 Q r rv ru h k => ?_⟩
  simp only [rIsL] at h
  split at h
  · split at h
    · exact ⟨_, _, rep_bl rv, rep_bl ru, k _ H _ G .refl r rbl h⟩
    · exact h.elim
  · exact h.elim
theorem o_isln : OpR3 X (compareOp .IsNot) rIsLN := by
  refine ⟨_, op_isnot_bl, fun x y v u H G Q3 Q r rv ru h k => ?_⟩
  simp only [rIsLN] at h
  split at h
  · split at h
    · exact ⟨_, _, rep_bl rv, rep_bl ru, k _ H _ G .refl r rbl h⟩
    · exact h.elim
  · exact h.elim
theorem S_decI (i : Int) : (toString i : Str) = S (decI i) := Str.ofString_eq_toList _
theorem b_str : CallR3 X (.type "str") bStr := by
  have cl : CallR X (.type "str") (fun xs H Q => (∃ i, xs = [.int i] ∧ i.natAbs.log2 < 1920 ∧ Q (.str (toString i)) H) ∨ (∃ a, xs = [.str a] ∧ Q (.str a) H) ∨ (∃ b : Bool, xs = [.bl b] ∧ Q (.str (if b then "True" else "False")) H)) := by
    intro pins s σ H xs us Q I r h
    rcases h with h | h | h
    · exact call_str_int pins s σ H xs us Q I r h
    · exact SkE.call_str_str pins s σ H xs us Q I r h
    · obtain ⟨b, rfl, q⟩ := h
      obtain ⟨u, rfl, e⟩ := vals1 r
      cases e
      exact PySem.P.str_of_bool ⟨.str _, H, I.tok _, ⟨_, rfl⟩, q⟩
  refine ⟨_, cl, fun ws vs H G Q3 Q r rv h k => ?_⟩
  simp only [bStr] at h
  split at h
  · obtain ⟨v, rfl, e⟩ := repl1 rv
    rw [rep_int1 e]
    refine .inl ⟨_, rfl, h.1, ?_⟩
    rw [S_decI]
    exact k _ _ _ _ .refl r rstr h.2
  · obtain ⟨v, rfl, e⟩ := repl1 rv
    rw [rep_str1 e]
    exact .inr (.inl ⟨_, rfl, k _ _ _ _ .refl r rstr h⟩)
  · rename_i b
    obtain ⟨v, rfl, e⟩ := repl1 rv
    rw [rep_bl e]
    refine .inr (.inr ⟨b, rfl, k _ H _ G .refl r ?_ h⟩)
    cases b <;> (simp only [Rep]; rfl)
  · exact h.elim
theorem simI_lst {E : EX} {t : L2.TE} {te : TE} (q : SimE X.K E.h0 t fun γ G Q => te γ G (E γ) Q) : SimI X.K E.h0 (iList X.K t) fun γ G R => iLst te γ G (E γ) R := by
  intro σ H γ G R3 R hs hr h3 k
  refine q σ H γ G _ _ hs hr h3 fun v H1 w G1 x1 r1 rv h3 => ?_
  cases w with
  | ref a =>
    simp only [Rep] at rv
    subst rv
    have hq : ∃ xs, SqL X.K H1 a xs := by
      cases q : G1 a with
      | none => have z := h3.2.1; simp only [items, q] at z; cases z
      | some o =>
        cases o with
        | lst ws => obtain ⟨xs, e, _⟩ := r1.seq (.inl q); exact ⟨xs, e⟩
        | rdl ws => obtain ⟨xs, e, _⟩ := r1.seq (.inr q); exact ⟨xs, e⟩
        | _ => have z := h3.2.1; simp only [items, q] at z; cases z
    exact ⟨a, rfl, hq, k _ _ H1 G1 x1 r1 simIt_list h3.2.2⟩
  | _ => exact h3.1.elim
theorem pi3_lst {tg l : Expr} {tl : TE} (h : PE3 X l tl) : PI3 X tg l (iLst tl) := fun E tk => by
  obtain ⟨t, p, q⟩ := h E tk
  exact ⟨_, pi_list p, simI_lst q⟩
theorem pg3_subL {o i : Expr} {to ti : TE} {pos : Pos} (ho : PE3 X o to) (hi : PE3 X i ti)
    (ha : ∀ v, assign (.Subscript o i pos) X.env v = (do
      let ov ← holding [v] (eval o X.env)
      let iv ← holding [v, ov] (eval i X.env)
      standAt pos
      holding [v, ov, iv] (setItem ov iv v)
      release [v, ov, iv] []) := by intro _; rfl) : PG3 X (.Subscript o i pos) [] (gSubL to ti) := by
  refine ⟨_, pg_sub (ho.can (E := fun _ => X0) takes0E) (hi.can (E := fun _ => X0) takes0E) set_list ha, ?_⟩
  intro Z0 v w σ H γ G Q3 Q hs hr rv h3 k
  refine ⟨Z0, γ, G, _, hs, hr, h3, fun v2 H2 w2 G2 x2 r2 rv2 h3 => ?_⟩
  refine ⟨Z0, γ, G2, _, hs.ext x2, r2, h3, fun v3 H3 w3 G3 x3 r3 rv3 h3 => ?_⟩
  have y := x2.trans x3
  cases w2 with
  | ref a =>
    simp only at h3
    split at h3
    · rename_i ws eq
      cases w3 with
      | int j =>
        obtain ⟨xs, s1, s2⟩ := r3.lst eq
        have m : Mut (H3 a) := by rw [s1]; trivial
        simp only at h3
        cases e : ixn ws.length j with
        | none => rw [e] at h3; exact h3.elim
        | some n =>
          rw [e] at h3
          refine ⟨a, xs, j, n, rep_ref1 rv2, rep_int1 rv3, s1, by rw [ixn_eq, ← s2.length]; exact e, ?_⟩
          exact k σ _ γ _ (y.trans (.write m)) (hs.ext (y.trans (.write m))) (r3.write (o := .lst (ws.set n w)) m ⟨_, upd_same, (s2.set n (rv.ext y)).ext (.write m)⟩) .refl h3
      | _ => exact h3.elim
    · exact h3.elim
  | _ => exact h3.elim
end
end L3

end
section
/-! L3SndP: dicts that the module writes; zip of lists and tuples. -/
namespace L3
open PySem PySem.Spec PyProof.Rows L2
/-! ### a dict of the module -/
def kdB (K : Frag) : KD → List DictEntry → Bool
  | [], es => es.isEmpty
  | p :: r, es => (match es with
    | e :: q => (match e.key with | .str x _ => decide (x.cps.toList = p.1) | _ => false) && repB K 60 p.2 e.val && kdB K r q
    | [] => false)
theorem kdB_find {K : Frag} : ∀ {d : KD} {es : List DictEntry}, kdB K d es = true → ∀ z : List Nat, match lookS d z with
    | some w => ∃ u, (es.find? fun e => Value.isStrOf (S z) e.key).map (·.val) = some u ∧ ∃ v, RelV v u ∧ ∀ H, Rep K H w v
    | none => (es.find? fun e => Value.isStrOf (S z) e.key).map (·.val) = none
  | [], es, h, z => by
    unfold kdB at h
    cases es with
    | nil => rfl
    | cons _ _ => cases h
  | p :: r, es, h, z => by
    unfold kdB at h
    cases es with
    | nil => cases h
    | cons e q =>
      simp only [Bool.and_eq_true] at h
      obtain ⟨⟨h1, h2⟩, h3⟩ := h
      split at h1
      · rename_i x t ek
        have e1 := of_decide_eq_true h1
        have ex : x = S p.1 := by rw [← e1]; rfl
        have hk : Value.isStrOf (S z) e.key = decide (p.1 = z) := by
          rw [ek, ex]
          show (S p.1 == S z) = _
          by_cases q : p.1 = z
          · subst q; simp
          · rw [decide_eq_false q]
            refine beq_eq_false_iff_ne.mpr fun w => q ?_
            have := congrArg (fun s : Str => s.cps.toList) w
            simpa [S] using this
        rw [List.find?_cons, hk]
        unfold lookS
        by_cases q : p.1 = z
        · rw [if_pos q, decide_eq_true q]
          obtain ⟨v, g1, g2⟩ := repB_ok _ _ _ h2
          exact ⟨e.val, rfl, v, g1, g2⟩
        · rw [if_neg q, decide_eq_false q]
          exact kdB_find h3 z
      · cases h1
structure Kdt (K : Frag) (w : World) (mg : Str → Option Value) (x : Str) (d : KD) : Prop where
  ex : ∃ (a : Addr) (es : Array DictEntry) (n : Nat), mg x = some (.ref a) ∧ KDict K w a es n ∧ kdB K d es.toList = true
def kdA (K : Frag) (d : KD) (u : Value) : Bool := match u with
  | .ref a => (a != sysModules) && (match K.lookup a with
    | some ⟨.type "dict", none, .dict es _, sl⟩ => sl.isEmpty && kdB K d es.toList
    | _ => false)
  | _ => false
section
variable {X : Cx} {x : Str} {d : KD} {e : Expr} {ty : TE} {p apos cpos : Pos}
theorem find_kd {K : Frag} {d : KD} {es : Array DictEntry} (h : kdB K d es.toList = true) (z : List Nat) : match lookS d z with
    | some w => ∃ u, findBy Value.isStrOf es (S z) = some u ∧ ∃ v, RelV v u ∧ ∀ H, Rep K H w v
    | none => findBy Value.isStrOf es (S z) = none := by
  have := kdB_find h z
  unfold findBy
  obtain ⟨l⟩ := es
  rw [List.find?_toArray]
  exact this
def tKget (K : Frag) (d : KD) (ty : L2.TE) : L2.TE := fun σ H Q => ty σ H fun y H1 => ∃ z : List Nat, y = .str (S z) ∧ ∀ v, (∀ H', Rep K H' ((lookS d z).getD .non) v) → Q v H1
theorem pe_kget {tu : L2.TE} (D : Kdt X.K X.w X.mg x d) (hg : Gl X x) (he : PE X e tu) (m : M1 X (.Name x p) "get" apos e cpos) (hd : (x == ("__debug__" : Str)) = false) : PE X (.Call (.Attribute (.Name x p) "get" apos) [e] [] cpos) (tKget X.K d tu) := by
  obtain ⟨a, es, n, h1, KD0, h2⟩ := D.ex
  refine ⟨fun pins s σ H Q I h => ?_⟩
  refine wpAny_Call_method m.base m.few m.line PySem.F.plainAttrs_dict PySem.F.slot_dict_get PySem.F.type_dict_get (ld_glob I hg h1 ?_ hd)
  have hm := PySem.W.mapOf_K (prog := X.prog) (w := X.w) I.kIn KD0.at_ KD0.lit
  refine ⟨hm.typeIs, hm.noDict, ?_⟩
  rw [m.trees]
  refine Calls.callWith_builtin rfl (Calls.evalArgs_plain (Calls.spliced_cons (thn (he.run pins s σ H _ I h) fun iv s2 ⟨y, H2, I2, ry, z, ey, q2⟩ => Calls.spliced_nil ?_)))
  subst ey
  obtain ⟨t, rfl⟩ := ry
  have hm2 := PySem.W.mapOf_K (prog := X.prog) (w := X.w) I2.kIn KD0.at_ KD0.lit
  refine call_meetsIn PySem.F.slot_dict_get hm2.typeIs PySem.F.entry_dict_get (PySem.F.args_dict_get_2 _ _) (meets_dict_get (strKind X.prog X.w) a (PySem.strKind_is X.prog X.w (S z) t) KD0.low) ⟨_, hm2, ?_⟩
  have hf := find_kd h2 z
  cases el : lookS d z with
  | none =>
    rw [el] at hf
    simp only at hf
    rw [hf]
    exact ⟨.non, H2, I2.tok _, rfl, q2 _ fun H' => by rw [el]; simp only [Option.getD, Rep]⟩
  | some w =>
    rw [el] at hf
    obtain ⟨u, hu, v, rv, rw'⟩ := hf
    rw [hu]
    exact ⟨v, H2, I2.tok _, rv, q2 _ fun H' => by rw [el]; exact rw' H'⟩
theorem pe3_kget (D : Kdt X.K X.w X.mg x d) (he : PE3 X e ty) (hg : Gl X x) (m : M1 X (.Name x p) "get" apos e cpos := by exact ⟨rfl, rfl, rfl, rfl⟩) (hd : (x == ("__debug__" : Str)) = false := by decide) : PE3 X (.Call (.Attribute (.Name x p) "get" apos) [e] [] cpos) (eKget d ty) := fun E tk => by
  obtain ⟨u, p2, q2⟩ := he E tk
  refine ⟨_, pe_kget D hg p2 m hd, fun σ H γ G Q3 Q hs hr h3 k => ?_⟩
  refine q2 σ H γ G _ _ hs hr h3 fun v2 H2 w2 G2 x2 r2 rv2 h3 => ?_
  cases w2 with
  | str z => exact ⟨z, rep_str1 rv2, fun v hv => k _ H2 _ G2 x2 r2 (hv H2) h3⟩
  | _ => exact h3.elim
def tKix (K : Frag) (d : KD) (ty : L2.TE) : L2.TE := fun σ H Q => ty σ H fun y H1 => ∃ (z : List Nat) (w : W), y = .str (S z) ∧ lookS d z = some w ∧ ∀ v, (∀ H', Rep K H' w v) → Q v H1
theorem pe_kix {tu : L2.TE} (D : Kdt X.K X.w X.mg x d) (hg : Gl X x) (he : PE X e tu) (hs : PlainIx e) (hd : (x == ("__debug__" : Str)) = false) : PE X (.Subscript (.Name x p) e cpos) (tKix X.K d tu) := by
  obtain ⟨a, es, n, h1, KD0, h2⟩ := D.ex
  refine ⟨fun pins s σ H Q I h => ?_⟩
  refine Subscript_ (ld_glob I hg h1 ?_ hd)
  refine thn (he.run pins s σ H _ I h) fun u s2 ⟨y, H2, I2, ry, q⟩ => ?_
  obtain ⟨z, w, ey, el, q⟩ := q
  subst ey
  obtain ⟨t, rfl⟩ := ry
  have hm2 := PySem.W.mapOf_K (prog := X.prog) (w := X.w) I2.kIn KD0.at_ KD0.lit
  have hf := find_kd h2 z
  rw [el] at hf
  obtain ⟨u, hu, v, rv, rw'⟩ := hf
  exact tail_any hm2.typeIs slot_dict_getitem.lookup (wpAny_getItem_of (strKind_is X.prog X.w (S z) t) hm2 hu ⟨v, H2, I2.tok _, rv, q v rw'⟩) (hs _ _)
theorem pe3_kix (D : Kdt X.K X.w X.mg x d) (he : PE3 X e ty) (hg : Gl X x) (hs : PlainIx e := by exact fun _ _ => rfl) (hd : (x == ("__debug__" : Str)) = false := by decide) : PE3 X (.Subscript (.Name x p) e cpos) (eKix d ty) := fun E tk => by
  obtain ⟨u, p2, q2⟩ := he E tk
  refine ⟨_, pe_kix D hg p2 hs hd, fun σ H γ G Q3 Q hs hr h3 k => ?_⟩
  refine q2 σ H γ G _ _ hs hr h3 fun v2 H2 w2 G2 x2 r2 rv2 h3 => ?_
  cases w2 with
  | str z =>
    dsimp only at h3
    split at h3
    · rename_i w el
      exact ⟨z, w, rep_str1 rv2, el, fun v hv => k _ H2 _ G2 x2 r2 (hv H2) h3⟩
    · exact h3.elim
  | _ => exact h3.elim
/-- k in X, k not in X -/
theorem pe_kin {tu : L2.TE} (D : Kdt X.K X.w X.mg x d) (hg : Gl X x) (he : PE X e tu) (hd : (x == ("__debug__" : Str)) = false) (hm : behindInMarks .In (.Name x p) = false) : PE X (.Compare e [.In] [.Name x p] cpos) (fun σ H Q => tu σ H fun y H1 => ∃ z : List Nat, y = .str (S z) ∧ Q (.bl (lookS d z).isSome) H1) := by
  obtain ⟨a, es, n, h1, KD0, h2⟩ := D.ex
  refine ⟨fun pins s σ H Q I h => ?_⟩
  refine wpAny_Compare1 (thn (he.run pins s σ H _ I h) fun u s2 ⟨y, H2, I2, ry, z, ey, q⟩ => ld_glob I2 hg h1 ?_ hd) hm
  subst ey
  obtain ⟨t, rfl⟩ := ry
  have hm2 := PySem.W.mapOf_K (prog := X.prog) (w := X.w) I2.kIn KD0.at_ KD0.lit
  refine wpAny_in_of (PySem.strKind_is X.prog X.w (S z) t) KD0.low hm2 ?_
  have hf := find_kd h2 z
  cases el : lookS d z with
  | none => rw [el] at hf q; simp only at hf; rw [hf]; exact ⟨.bl false, H2, I2.tok _, rfl, q⟩
  | some w => rw [el] at hf q; obtain ⟨u, hu, _⟩ := hf; rw [hu]; exact ⟨.bl true, H2, I2.tok _, rfl, q⟩
theorem pe_knin {tu : L2.TE} (D : Kdt X.K X.w X.mg x d) (hg : Gl X x) (he : PE X e tu) (hd : (x == ("__debug__" : Str)) = false) (hm : behindInMarks .NotIn (.Name x p) = false) : PE X (.Compare e [.NotIn] [.Name x p] cpos) (fun σ H Q => tu σ H fun y H1 => ∃ z : List Nat, y = .str (S z) ∧ Q (.bl (!(lookS d z).isSome)) H1) := by
  obtain ⟨a, es, n, h1, KD0, h2⟩ := D.ex
  refine ⟨fun pins s σ H Q I h => ?_⟩
  refine wpAny_Compare1 (thn (he.run pins s σ H _ I h) fun u s2 ⟨y, H2, I2, ry, z, ey, q⟩ => ld_glob I2 hg h1 ?_ hd) hm
  subst ey
  obtain ⟨t, rfl⟩ := ry
  have hm2 := PySem.W.mapOf_K (prog := X.prog) (w := X.w) I2.kIn KD0.at_ KD0.lit
  refine wpAny_notIn_of (PySem.strKind_is X.prog X.w (S z) t) KD0.low hm2 ?_
  have hf := find_kd h2 z
  cases el : lookS d z with
  | none => rw [el] at hf q; simp only at hf; rw [hf]; exact ⟨.bl true, H2, I2.tok _, rfl, q⟩
  | some w => rw [el] at hf q; obtain ⟨u, hu, _⟩ := hf; rw [hu]; exact ⟨.bl false, H2, I2.tok _, rfl, q⟩
theorem pe3_kin (D : Kdt X.K X.w X.mg x d) (he : PE3 X e ty) (hg : Gl X x) (hm : behindInMarks .In (.Name x p) = false := by rfl) (hd : (x == ("__debug__" : Str)) = false := by decide) : PE3 X (.Compare e [.In] [.Name x p] cpos) (eKin d ty) := fun E tk => by
  obtain ⟨u, p2, q2⟩ := he E tk
  refine ⟨_, pe_kin D hg p2 hd hm, fun σ H γ G Q3 Q hs hr h3 k => ?_⟩
  refine q2 σ H γ G _ _ hs hr h3 fun v2 H2 w2 G2 x2 r2 rv2 h3 => ?_
  cases w2 with
  | str z => exact ⟨z, rep_str1 rv2, k _ H2 _ G2 x2 r2 rbl h3⟩
  | _ => exact h3.elim
theorem pe3_knin (D : Kdt X.K X.w X.mg x d) (he : PE3 X e ty) (hg : Gl X x) (hm : behindInMarks .NotIn (.Name x p) = false := by rfl) (hd : (x == ("__debug__" : Str)) = false := by decide) : PE3 X (.Compare e [.NotIn] [.Name x p] cpos) (eKnin d ty) := fun E tk => by
  obtain ⟨u, p2, q2⟩ := he E tk
  refine ⟨_, pe_knin D hg p2 hd hm, fun σ H γ G Q3 Q hs hr h3 k => ?_⟩
  refine q2 σ H γ G _ _ hs hr h3 fun v2 H2 w2 G2 x2 r2 rv2 h3 => ?_
  cases w2 with
  | str z => exact ⟨z, rep_str1 rv2, k _ H2 _ G2 x2 r2 rbl h3⟩
  | _ => exact h3.elim
theorem pt_kin {tu : L2.TE} (D : Kdt X.K X.w X.mg x d) (hg : Gl X x) (he : PE X e tu) (hd : (x == ("__debug__" : Str)) = false) (hm : behindInMarks .In (.Name x p) = false) : PT X (.Compare e [.In] [.Name x p] cpos) (fun σ H Q => tu σ H fun y H1 => ∃ z : List Nat, y = .str (S z) ∧ Q ((lookS d z).isSome) H1) := by
  obtain ⟨a, es, n, h1, KD0, h2⟩ := D.ex
  refine ⟨fun pins s σ H Q I h => ?_⟩
  refine wpAny_isTrue_Compare1 (thn (he.run pins s σ H _ I h) fun u s2 ⟨y, H2, I2, ry, z, ey, q⟩ => ld_glob I2 hg h1 ?_ hd) hm
  subst ey
  obtain ⟨t, rfl⟩ := ry
  have hm2 := PySem.W.mapOf_K (prog := X.prog) (w := X.w) I2.kIn KD0.at_ KD0.lit
  refine wpAny_in_of (PySem.strKind_is X.prog X.w (S z) t) KD0.low hm2 ?_
  have hf := find_kd h2 z
  cases el : lookS d z with
  | none => rw [el] at hf q; simp only at hf; rw [hf]; exact wpAny_truthy_bool ⟨H2, I2.tok _, q⟩
  | some w => rw [el] at hf q; obtain ⟨u, hu, _⟩ := hf; rw [hu]; exact wpAny_truthy_bool ⟨H2, I2.tok _, q⟩
theorem pt3_kin (D : Kdt X.K X.w X.mg x d) (he : PE3 X e ty) (hg : Gl X x) (hm : behindInMarks .In (.Name x p) = false := by rfl) (hd : (x == ("__debug__" : Str)) = false := by decide) : PT3 X (.Compare e [.In] [.Name x p] cpos) (tV (eKin d ty)) := fun E tk => by
  obtain ⟨u, p2, q2⟩ := he E tk
  refine ⟨_, pt_kin D hg p2 hd hm, fun σ H γ G Q3 Q hs hr h3 k => ?_⟩
  refine q2 σ H γ G _ _ hs hr h3 fun v2 H2 w2 G2 x2 r2 rv2 h3 => ?_
  cases w2 with
  | str z => exact ⟨z, rep_str1 rv2, k _ H2 G2 x2 r2 h3⟩
  | _ => exact h3.elim
theorem pt_knin {tu : L2.TE} (D : Kdt X.K X.w X.mg x d) (hg : Gl X x) (he : PE X e tu) (hd : (x == ("__debug__" : Str)) = false) (hm : behindInMarks .NotIn (.Name x p) = false) : PT X (.Compare e [.NotIn] [.Name x p] cpos) (fun σ H Q => tu σ H fun y H1 => ∃ z : List Nat, y = .str (S z) ∧ Q (!(lookS d z).isSome) H1) := by
  obtain ⟨a, es, n, h1, KD0, h2⟩ := D.ex
  refine ⟨fun pins s σ H Q I h => ?_⟩
  refine wpAny_isTrue_Compare1 (thn (he.run pins s σ H _ I h) fun u s2 ⟨y, H2, I2, ry, z, ey, q⟩ => ld_glob I2 hg h1 ?_ hd) hm
  subst ey
  obtain ⟨t, rfl⟩ := ry
  have hm2 := PySem.W.mapOf_K (prog := X.prog) (w := X.w) I2.kIn KD0.at_ KD0.lit
  refine wpAny_notIn_of (PySem.strKind_is X.prog X.w (S z) t) KD0.low hm2 ?_
  have hf := find_kd h2 z
  cases el : lookS d z with
  | none => rw [el] at hf q; simp only at hf; rw [hf]; exact wpAny_truthy_bool ⟨H2, I2.tok _, q⟩
  | some w => rw [el] at hf q; obtain ⟨u, hu, _⟩ := hf; rw [hu]; exact wpAny_truthy_bool ⟨H2, I2.tok _, q⟩
theorem pt3_knin (D : Kdt X.K X.w X.mg x d) (he : PE3 X e ty) (hg : Gl X x) (hm : behindInMarks .NotIn (.Name x p) = false := by rfl) (hd : (x == ("__debug__" : Str)) = false := by decide) : PT3 X (.Compare e [.NotIn] [.Name x p] cpos) (tV (eKnin d ty)) := fun E tk => by
  obtain ⟨u, p2, q2⟩ := he E tk
  refine ⟨_, pt_knin D hg p2 hd hm, fun σ H γ G Q3 Q hs hr h3 k => ?_⟩
  refine q2 σ H γ G _ _ hs hr h3 fun v2 H2 w2 G2 x2 r2 rv2 h3 => ?_
  cases w2 with
  | str z => exact ⟨z, rep_str1 rv2, k _ H2 G2 x2 r2 h3⟩
  | _ => exact h3.elim
end
/-- the fact of the top -/
theorem kdt_of {K : Frag} {w : World} {h : Heap} {mg : Str → Option Value} {x : Str} {d : KD} {a : Addr} {es : Array DictEntry} {n : Nat} (hK : K.In h) (hN : h.Ns mainGlobals mg) (e : PySem.W.nsIn K mainGlobals x = some (some (.ref a)))
    (l : K.lookup a = some ⟨.type "dict", none, .dict es n, #[]⟩) (q : PySem.W.KeysLit w.params es.toList) (s : (a == sysModules) = false) (b : kdB K d es.toList = true) : Kdt K w mg x d :=
  ⟨a, es, n, PySem.W.mg_of hK hN e, ⟨l, q, s⟩, b⟩
/-! ### zip of lists and tuples -/
inductive Src where | L (a : Addr) | T (a : Addr)
def Src.ad : Src → Addr | .L a => a | .T a => a
def Src.at (K : Frag) (H : Hp) : Src → List V → Prop | .L a, xs => SqL K H a xs | .T a, xs => SqT K H a xs
def Src.it (h : Heap) : Src → Addr → Nat → Prop | .L a, it, i => h.IsListIter it a i | .T a, it, i => h.IsTupleIter it a i
def Src.is (h : Heap) : Src → Array Value → Prop | .L a, xs => h.IsList a xs | .T a, xs => h.IsTuple a xs
def Src.obj : Src → Obj | .L a => { cls := .type "list_iterator", data := .fields #[.ref a, .int 0 0] } | .T a => { cls := .type "tuple_iterator", data := .fields #[.ref a, .int 0 0] }
theorem Src.begins : ∀ (s : Src) (its : Array Value), Begins (.ref s.ad) s.obj fun h => s.is h its
  | .L a, its => begins_list a its
  | .T a, its => begins_tuple a its
theorem Src.draws {prog : Program} {w : World} {A : Around} (hh : A.handled = none) (it : Addr) (its : Array Value) : ∀ s : Src, s.ad ≠ it → Draws prog w A it [it, s.ad] its.size (fun i v => its[i]? = some v) (fun i h => s.it h it i ∧ s.is h its)
  | .L a, h => Draws.list hh it a h its
  | .T a, h => Draws.tuple hh it a h its
theorem Src.inv {X : Cx} {pins : List (Addr × Obj)} {σ : L2.St} {H : Hp} {s : Shared} {xs : List V} (I : Inv X pins σ H s) : ∀ {c : Src}, c.at X.K H xs → ∃ its : List Value, Vals xs its ∧ c.is s.heap its.toArray ∧ c.ad < s.heap.objs.size
  | .L a, h => by
    obtain ⟨its, r, p, _⟩ := I.list h
    exact ⟨its, r, p.isList, p.lt⟩
  | .T a, h => by
    obtain ⟨its, r, p, _⟩ := I.tuple h
    obtain ⟨o, ho, _⟩ := id p
    exact ⟨its, r, p, Heap.lt_size ho⟩
theorem Src.inj {X : Cx} {pins : List (Addr × Obj)} {σ : L2.St} {H : Hp} {s : Shared} {xs ys : List V} (I : Inv X pins σ H s) : ∀ {c : Src}, c.at X.K H xs → c.at X.K H ys → xs = ys
  | .L a, h, h' => I.list_inj h h'
  | .T a, h, h' => I.tuple_inj h h'
theorem Src.it_obj {h : Heap} {it : Addr} {i : Nat} : ∀ {c : Src}, c.it h it i → ∃ o, h.get? it = some o ∧ ∀ v, o.data ≠ .cell v
  | .L a, ⟨o, e, _, d⟩ => ⟨o, e, fun v q => by rw [d] at q; cases q⟩
  | .T a, ⟨o, e, _, d⟩ => ⟨o, e, fun v q => by rw [d] at q; cases q⟩
theorem Src.it_at {h h' : Heap} {it : Addr} {i : Nat} : ∀ {c : Src}, c.it h it i → (∀ o, h.get? it = some o → h'.get? it = some o) → c.it h' it i
  | .L a, x, k => x.at k
  | .T a, x, k => x.at k
def ItzG (K : Frag) (c d : Src) (n m : Nat) : L2.It :=
  ⟨fun i H => ∃ (xs ys : List V) (x y : V), c.at K H xs ∧ d.at K H ys ∧ xs.length = n ∧ ys.length = m ∧ xs[i]? = some x ∧ ys[i]? = some y,
    fun i H v H' => ∃ T x y, v = .ref T ∧ H T = none ∧ H' = upd H T (.tup [x, y]) ∧ (∀ xs, c.at K H xs → xs[i]? = some x) ∧ ∀ ys, d.at K H ys → ys[i]? = some y,
    fun i H => ∃ xs ys : List V, c.at K H xs ∧ d.at K H ys ∧ xs.length = n ∧ ys.length = m ∧ (n ≤ i ∨ m ≤ i)⟩
theorem turn_zipG {P : Program} {w : World} {K : Frag} {elts : List Expr} {kk : Nat} {tpos : Pos} {c d : Src} {n m : Nat} {z TI TO i1 i2 : Addr} (D : ZipSep2 z TI TO i1 i2 [i1, c.ad] [i2, d.ad]) (n1 : c.ad ≠ i1) (n2 : d.ad ≠ i2) :
    Turn P w K (.Tuple elts kk tpos) (ItzG K c d n m) [z, TI, TO, i1, i2] z (fun i h => i ≤ n ∧ i ≤ m ∧ IsZip h z TI TO .none ∧ IsTupOf2 h TI (.ref i1) (.ref i2) ∧ (∃ a b, IsTupOf2 h TO a b) ∧ c.it h i1 i ∧ d.it h i2 i) where
  mem := by simp
  obj := fun i h st b hb => by
    obtain ⟨_, _, hz, hTI, ⟨x, y, hTO⟩, h1, h2⟩ := st
    have e' : b = z ∨ b = TI ∨ b = TO ∨ b = i1 ∨ b = i2 := by simpa using hb
    rcases e' with q | q | q | q | q
    · rw [q]; exact ⟨_, hz, fun v q => nomatch q⟩
    · rw [q]; exact ⟨_, hTI, fun v q => nomatch q⟩
    · rw [q]; exact ⟨_, hTO, fun v q => nomatch q⟩
    · rw [q]; exact Src.it_obj h1
    · rw [q]; exact Src.it_obj h2
  keep := fun i h h' st k => by
    obtain ⟨l1, l2, hz, hTI, ⟨x, y, hTO⟩, h1, h2⟩ := st
    exact ⟨l1, l2, k z (by simp) _ hz, k TI (by simp) _ hTI, ⟨x, y, k TO (by simp) _ hTO⟩, Src.it_at h1 fun o q => k i1 (by simp) o q, Src.it_at h2 fun o q => k i2 (by simp) o q⟩
  item := by
    intro X hP hw hK hc i pins s σ H E I hf st hg
    subst hP hw hK
    obtain ⟨l1, l2, hz, hTI, ⟨x0, y0, hTO⟩, h1, h2⟩ := st
    obtain ⟨xs, ys, x, y, hqx, hqy, en, em, hx, hy⟩ := hg
    obtain ⟨its, rv, p, _⟩ := Src.inv I hqx
    obtain ⟨its2, rv2, p2, _⟩ := Src.inv I hqy
    obtain ⟨u, hu, ru⟩ := rv.get hx
    obtain ⟨u2, hu2, ru2⟩ := rv2.get hy
    have hzl : z < s.heap.objs.size := Heap.lt_size hz
    have hh : X.A.handled = none := I.ok.hd hc
    have D1 := Src.draws (prog := X.prog) (w := X.w) (A := X.A.in1) hh i1 its.toArray c n1
    have D2 := Src.draws (prog := X.prog) (w := X.w) (A := X.A.in1) hh i2 its2.toArray d n2
    have f1 := rv.length
    have f2 := rv2.length
    have g1 : i < xs.length := (List.getElem?_eq_some_iff.mp hx).1
    have g2 : i < ys.length := (List.getElem?_eq_some_iff.mp hy).1
    refine wpAny_pyNext_zipD2_item D D1 D2 hz hTI hTO ⟨h1, p⟩ ⟨h2, p2⟩ (by simp; omega) (by simp; omega) fun x1 x2 h' tk e1 e2 z' TO' h1' h2' hT hsz hk => ?_
    have e1' : x1 = u := Option.some.inj (e1.symm.trans (by simpa using hu))
    have e2' : x2 = u2 := Option.some.inj (e2.symm.trans (by simpa using hu2))
    subst e1' e2'
    refine ⟨_, rfl, wpAny_letOwnedTupleGo_zip (s := { s with heap := h', toks := tk }) z' fun h'' z'' sb => ?_⟩
    have hT2 : h''.get? s.heap.objs.size = some { cls := .type "tuple", data := .seq #[x1, x2] } := (sb.2 _ (Nat.ne_of_gt hzl)).trans hT
    have new : ObjOk X.prog X.w (upd H s.heap.objs.size (.tup [x, y])) h'' s.heap.objs.size (.tup [x, y]) :=
      ⟨by show 2 ≤ sizeLine; decide, [x1, x2], .cons ru (.cons ru2 .nil), ⟨_, hT2, rfl, _, rfl⟩⟩
    have I1 : Inv X pins σ (upd H s.heap.objs.size (.tup [x, y])) { s with heap := h'', toks := tk } :=
      I.turnedNew (t' := tk) (ch := [z, TI, TO, i1, i2]) (fun c o hb q => (sb.2 c (fun q' => hb (by simp [q']))).trans (hk c o (fun q' => hb (by simp [q'])) (fun q' => hb (by simp [q'])) (fun q' => hb (by simp [q'])) (fun q' => hb (by simp [q'])) q)) hf (Nat.le_refl _) new
    refine ⟨.ref s.heap.objs.size, _, I1, rfl, ⟨_, x, y, rfl, I.hok.fresh (Nat.le_refl _), rfl, fun l hl => by rw [Src.inj I hl hqx]; exact hx, fun l hl => by rw [Src.inj I hl hqy]; exact hy⟩, ⟨by omega, by omega, z'', ?_, ⟨x1, x2, ?_⟩, ?_, ?_⟩, fun c hcm => ?_⟩
    · exact (sb.2 _ D.TIz).trans (hk _ _ D.TIz D.TITO D.TIi1 D.TIi2 hTI)
    · exact (sb.2 _ D.TOz).trans TO'
    · exact Src.it_at h1'.1 fun o q => (sb.2 _ D.zi1.symm).trans q
    · exact Src.it_at h2'.1 fun o q => (sb.2 _ D.zi2.symm).trans q
    · have hlt : c < s.heap.objs.size := by
        have e' : c = z ∨ c = TI ∨ c = TO ∨ c = i1 ∨ c = i2 := by simpa using hcm
        rcases e' with q | q | q | q | q
        · rw [q]; exact hzl
        · rw [q]; exact Heap.lt_size hTI
        · rw [q]; exact Heap.lt_size hTO
        · rw [q]; obtain ⟨_, e1, _⟩ := Src.it_obj h1; exact Heap.lt_size e1
        · rw [q]; obtain ⟨_, e2, _⟩ := Src.it_obj h2; exact Heap.lt_size e2
      rw [upd_ne (Nat.ne_of_lt hlt)]
      exact (hf c hcm).1
  done := by
    intro X hP hw hK hc i pins s σ H E I hf st hg
    subst hP hw hK
    obtain ⟨l1, l2, hz, hTI, ⟨x0, y0, hTO⟩, h1, h2⟩ := st
    obtain ⟨xs, ys, hqx, hqy, en, em, hend⟩ := hg
    obtain ⟨its, rv, p, _⟩ := Src.inv I hqx
    obtain ⟨its2, rv2, p2, _⟩ := Src.inv I hqy
    have hh : X.A.handled = none := I.ok.hd hc
    have D1 := Src.draws (prog := X.prog) (w := X.w) (A := X.A.in1) hh i1 its.toArray c n1
    have D2 := Src.draws (prog := X.prog) (w := X.w) (A := X.A.in1) hh i2 its2.toArray d n2
    have f1 := rv.length
    have f2 := rv2.length
    exact wpAny_pyNext_zipD2_end D D1 D2 hz hTI hTO ⟨h1, p⟩ ⟨h2, p2⟩ (by simp; omega) (by simp; omega) (by simp; omega) fun h' tk hk => ⟨rfl, I.turnedL (t' := tk) (ch := [z, TI, TO, i1, i2]) (fun c o hb q =>
      hk c o (fun q' => hb (by simp [q'])) (fun q' => hb (by simp [q'])) (fun q' => hb (by simp [q'])) (fun q' => hb (by simp [q'])) q) hf⟩
  self := fun A i s Q E st h => wpAny_pyIter_zip st.2.2.1 h
def tZipG (K : Frag) (ta : L2.TA) : L2.TI := fun σ H R => ta σ H fun vs H1 => ∃ (c d : Src) (xs ys : List V), vs = [.ref c.ad, .ref d.ad] ∧ c.at K H1 xs ∧ d.at K H1 ys ∧ R (ItzG K c d xs.length ys.length) H1
theorem pi_zipG {X : Cx} {pos : Pos} {e e2 : Expr} {ta : L2.TA} {p tpos : Pos} {elts : List Expr} {kk : Nat} (hg : Gl X "zip") (hm : X.mg "zip" = none) (ha : PA X [e, e2] ta)
    (hs : starEach [e, e2] X.env = (false, eval e X.env) :: starEach [e2] X.env := by rfl) (hpl : (backTo pos (starEach [e2] X.env)).any (·.1) = false := by rfl) :
    PI X (.Tuple elts kk tpos) (.Call (.Name "zip" p) [e, e2] [] pos) (tZipG X.K ta) := by
  refine ⟨fun pins s σ H R I h => ?_⟩
  refine Call_ (ld_blt I hg hm PyProof.Rows.boot_zip (PyProof.Rows.callWith_type1 (thn (ha.run pos pins s σ H _ I h) fun us s1 ⟨vs, H1, I1, r1, q1⟩ => ?_) hs hpl))
  obtain ⟨c, d, xs, ys, ex, hx, hy, q⟩ := q1
  subst ex
  cases r1 with
  | cons r rr =>
    cases rr with
    | cons r' rr =>
      cases rr
      cases r
      cases r'
      have fresh5 : ∀ c, c ∈ [s1.heap.objs.size + 4, s1.heap.objs.size + 2, s1.heap.objs.size + 3, s1.heap.objs.size, s1.heap.objs.size + 1] → FpOk X pins H1 c := fun c hcm => by
        have e' : c = s1.heap.objs.size + 4 ∨ c = s1.heap.objs.size + 2 ∨ c = s1.heap.objs.size + 3 ∨ c = s1.heap.objs.size ∨ c = s1.heap.objs.size + 1 := by simpa using hcm
        have hle : s1.heap.objs.size ≤ c := by
          rcases e' with z | z | z | z | z
          · rw [z]; exact Nat.le_add_right _ _
          · rw [z]; exact Nat.le_add_right _ _
          · rw [z]; exact Nat.le_add_right _ _
          · rw [z]; exact Nat.le_refl _
          · rw [z]; exact Nat.le_add_right _ _
        exact I1.fpOk hle (I1.hok.fresh hle)
      obtain ⟨its, rv, p1, lt1⟩ := Src.inv I1 hx
      obtain ⟨its2, rv2, p2, lt2⟩ := Src.inv I1 hy
      refine zip_begins2 (c.begins its.toArray) (d.begins its2.toArray) p1 p2 fun h' hz hTI hTO h1 h2 hsz hk => wpAny_pyIter_zip hz ?_
      have I2 : Inv X pins σ H1 { s1 with heap := h' } := I1.kept (t' := s1.toks) hk
      have q1 : ∀ k, s1.heap.objs.size + k ≠ c.ad := fun k e => Nat.lt_irrefl _ (Nat.lt_of_le_of_lt (Nat.le_add_right _ k) (e ▸ lt1))
      have q2 : ∀ k, s1.heap.objs.size + k ≠ d.ad := fun k e => Nat.lt_irrefl _ (Nat.lt_of_le_of_lt (Nat.le_add_right _ k) (e ▸ lt2))
      have q1' : s1.heap.objs.size ≠ c.ad := q1 0
      have q2' : s1.heap.objs.size ≠ d.ad := q2 0
      have D : ZipSep2 (s1.heap.objs.size + 4) (s1.heap.objs.size + 2) (s1.heap.objs.size + 3) s1.heap.objs.size (s1.heap.objs.size + 1) [s1.heap.objs.size, c.ad] [s1.heap.objs.size + 1, d.ad] := by
        constructor <;> simp [q1 4, q1 3, q1' , q2 4, q2 3, q1 1, q2 0, q2' ] <;> first | omega | exact q1 1 | exact q2'
      have b1 : c.it h' s1.heap.objs.size 0 := by cases c <;> exact ⟨_, h1, rfl, rfl⟩
      have b2 : d.it h' (s1.heap.objs.size + 1) 0 := by cases d <;> exact ⟨_, h2, rfl, rfl⟩
      exact ⟨s1.heap.objs.size + 4, [s1.heap.objs.size + 4, s1.heap.objs.size + 2, s1.heap.objs.size + 3, s1.heap.objs.size, s1.heap.objs.size + 1], _, _, H1, rfl, I2, turn_zipG D q1'.symm (q2 1).symm, ⟨Nat.zero_le _, Nat.zero_le _, hz, hTI, ⟨_, _, hTO⟩, b1, b2⟩, fresh5, q⟩
theorem src_of {K : Frag} {H : Hp} {G : Gh} {x : W} {v : V} {ws : List W} (r : Rel K H G) (rv : Rep K H x v) (hs : isSeqW x = true) (e : items x G = some ws) : ∃ (c : Src) (xs : List V), v = .ref c.ad ∧ c.at K H xs ∧ RepL K H ws xs ∧
    ∀ (H' : Hp) (G' : Gh) (ws' : List W), KpT H H' → Rel K H' G' → items x G' = some ws' → ∃ xs', c.at K H' xs' ∧ RepL K H' ws' xs' := by
  cases x with
  | ref a =>
    simp only [Rep] at rv
    subst rv
    obtain ⟨xs, s1, s2⟩ := seq_items r e
    exact ⟨.L a, xs, rfl, s1, s2, fun H' G' ws' _ r' e' => seq_items r' e'⟩
  | tup us =>
    simp only [Rep] at rv
    obtain ⟨a, xs, rfl, h1, h2⟩ := rv
    cases e
    refine ⟨.T a, xs, rfl, .inl (.inl h1), h2, fun H' G' ws' k r' e' => ?_⟩
    cases e'
    exact ⟨xs, .inl (.inl (k a xs h1)), h2.extT k⟩
  | ktp us =>
    simp only [Rep] at rv
    obtain ⟨a, xs, rfl, h1, h2⟩ := rv
    cases e
    have up : ∀ H, SqT K H a xs := fun H => by
      rcases h1 with (h1 | ⟨o, h1⟩) | h1
      · cases h1
      · cases h1
      · exact .inr h1
    refine ⟨.T a, xs, rfl, up H, h2, fun H' G' ws' k r' e' => ?_⟩
    cases e'
    exact ⟨xs, up H', h2.extT k⟩
  | kl us =>
    simp only [Rep] at rv
    obtain ⟨a, xs, rfl, h1, h2⟩ := rv
    cases e
    have up : ∀ H, SqL K H a xs := fun H => by
      rcases h1 with (h1 | ⟨o, h1⟩) | h1
      · cases h1
      · cases h1
      · exact .inr h1
    refine ⟨.L a, xs, rfl, up H, h2, fun H' G' ws' k r' e' => ?_⟩
    cases e'
    exact ⟨xs, up H', h2.extT k⟩
  | _ => cases hs
theorem simIt_zipG {K : Frag} {H0 : Hp} {x y : W} {c d : Src} {n m : Nat} (hx : ∀ (H' : Hp) (G' : Gh) (ws' : List W), KpT H0 H' → Rel K H' G' → items x G' = some ws' → ∃ xs', c.at K H' xs' ∧ RepL K H' ws' xs')
    (hy : ∀ (H' : Hp) (G' : Gh) (ws' : List W), KpT H0 H' → Rel K H' G' → items y G' = some ws' → ∃ xs', d.at K H' xs' ∧ RepL K H' ws' xs') : SimIt K H0 (ItzG K c d n m) (gitems x y n m) := by
  intro i H G all xx r e
  unfold gitems at e
  split at e
  · rename_i xs e1
    split at e
    · rename_i ys e2
      split at e
      · rename_i hl0
        obtain ⟨hl1, hl2⟩ := hl0
        cases e
        obtain ⟨vs, s1, s2⟩ := hx H G _ xx.t r e1
        obtain ⟨us, t1, t2⟩ := hy H G _ xx.t r e2
        have l1 := s2.length
        have l2 := t2.length
        refine ⟨fun w ew => ?_, fun hl => ⟨vs, us, s1, t1, by omega, by omega, ?_⟩⟩
        · rw [List.getElem?_zipWith] at ew
          cases q1 : xs[i]? with
          | none => rw [q1] at ew; cases ew
          | some wx =>
            cases q2 : ys[i]? with
            | none => rw [q1, q2] at ew; cases ew
            | some wy =>
              rw [q1, q2] at ew
              cases ew
              obtain ⟨vx, g1, g2⟩ := s2.get q1
              obtain ⟨vy, g3, g4⟩ := t2.get q2
              refine ⟨⟨vs, us, vx, vy, s1, t1, by omega, by omega, g1, g3⟩, fun z H' hy => ?_⟩
              obtain ⟨T, x', y', rfl, hT, rfl, f1, f2⟩ := hy
              have ex : x' = vx := Option.some.inj ((f1 vs s1).symm.trans g1)
              have ey : y' = vy := Option.some.inj ((f2 us t1).symm.trans g3)
              subst ex ey
              refine ⟨.new hT, r.hid hT, ?_⟩
              simp only [Rep]
              exact ⟨T, _, rfl, upd_same, .cons (g2.ext (.new hT)) (.one (g4.ext (.new hT)))⟩
        · rw [List.length_zipWith] at hl
          omega
      · cases e
    · cases e
  · cases e
theorem pi3_zipG {X : Cx} {pos : Pos} {a b : Expr} {ta : TA} {p tpos : Pos} {elts : List Expr} {kk : Nat} (hg : Gl X "zip") (hm : X.mg "zip" = none) (ha : PA3 X [a, b] ta) (hs : starEach [a, b] X.env = (false, eval a X.env) :: starEach [b] X.env := by rfl)
    (hpl : (backTo pos (starEach [b] X.env)).any (·.1) = false := by rfl) : PI3 X (.Tuple elts kk tpos) (.Call (.Name "zip" p) [a, b] [] pos) (iZipG ta) := fun E tk => by
  obtain ⟨t, p1, q⟩ := ha E tk
  refine ⟨_, pi_zipG hg hm p1 hs hpl, fun σ H γ G R3 R hs hr h3 k => ?_⟩
  refine q σ H γ G _ _ hs hr h3 fun vs H1 ws G1 x1 r1 rv h3 => ?_
  split at h3
  · obtain ⟨v, u, rfl, r1v, ru⟩ := repl2 rv
    obtain ⟨i1, i2, xs, ys, e1, e2, h3⟩ := h3
    obtain ⟨c, vs, rfl, s1, s2, sk⟩ := src_of r1 r1v i1 e1
    obtain ⟨d, us, rfl, t1, t2, tk'⟩ := src_of r1 ru i2 e2
    refine ⟨c, d, vs, us, rfl, s1, t1, ?_⟩
    rw [← s2.length, ← t2.length]
    exact k _ _ H1 G1 x1 r1 (simIt_zipG sk tk') h3
  · exact h3.elim
end L3

end
section
set_option maxHeartbeats 2000000
/-! L3SndQ: comprehensions whose step may raise. -/
namespace L3
open PySem PySem.Spec PyProof.Rows L2
/-! ### what stands behind a comprehension's block -/
def compPostX (M : Model) (A : Around) (E : Value → Shared → Prop) (use : Option (Value → Sem Unit)) (Q : Value → Shared → Prop) (acc : Value) (ce : Env) (r : Result) (s' : Shared) : Prop :=
  match r, use with
  | .ok _, none => ∃ m, s'.heap.Ns ce.locals m ∧ ∀ h', Heap.SameBut ce.locals s'.heap h' → Q acc { s' with heap := h' }
  | .ok _, some u => wpAny M A (u acc) (fun _ s'' => ∃ m, s''.heap.Ns ce.locals m ∧ ∀ h', Heap.SameBut ce.locals s''.heap h' → Q .none { s'' with heap := h' }) E s'
  | .error x, _ => ∃ m, s'.heap.Ns ce.locals m ∧ ∀ h', Heap.SameBut ce.locals s'.heap h' → ∀ c2 : Env, c2.frame = ce.frame → wpAny M A (PySem.passOn "comprehension.variables-let-go" x c2 : Sem Value) (fun _ _ => False) E { s' with heap := h' }
theorem comprehension_freeX {M : Model} {A : Around} {E : Value → Shared → Prop} {s : Shared} {env : Env} {e : Expr} {scope : Scope} {pos : Pos} {newAcc first : Sem Value} {g : Comprehension} {gs : List Comprehension} {cl : List (Str × Addr)} {use : Option (Value → Sem Unit)}
    {Q : Value → Shared → Prop}
    (hcl : clausesOf e = g :: gs) (hs : ∀ x, foldedSetIterable g.iter env x = pure x) (hclos : closureFor scope env = pure cl)
    (hkind : scope.kind = .function) (hnames : ∀ x ∈ scope.names, x.2 = .local → scope.names.lookup x.1 = some .local)
    (h : wpAny M A first (fun x s₁ => wpAny M A (pyIter x) (fun it s₂ => wpAny M A newAcc (fun acc s₃ =>
      wpAny M A (newFunctionEnv scope env.globals cl [] env.qual none .none (some env)) (fun cenv s₄ =>
        codeAny M A (.compStart e 0 it acc { cenv with scope := relabel scope env }) (compPostX M A E use Q acc { cenv with scope := relabel scope env }) s₄) E s₃) E s₂) E s₁) E s) :
    wpAny M A (comprehension e scope env pos newAcc false first use) Q E s := by
  unfold comprehension
  rw [hclos, hcl]
  refine wpAny_bind (wpAny_mono h (fun x s₁ h₁ => wpAny_bind (wpAny_standAt (wpAny_bind (wpAny_of_eq (hs x) (wpAny_bind (wpAny_holding (wpAny_mono h₁ (fun it s₂ h₂ =>
    wpAny_standIf (wpAny_bind (wpAny_mono h₂ (fun acc s₃ h₃ => wpAny_bind (wpAny_pure (wpAny_bind (wpAny_mono h₃ (fun cenv s₄ h₄ => ?_) fun _ _ h' => h')))) fun _ _ h' => h')))
      fun _ _ h' => h'))))))) fun _ _ h' => h')
  dsimp only
  have hv : ∀ x ∈ (scope.names.filter fun x => (x.2 == .local || x.2 == .cell) && x.1 != (".0" : Str)).reverse, x.2 = .local →
      Env.kindOf { cenv with scope := relabel scope env } x.1 = some .local := fun x hx hl => lookup_relabel_local (hnames x (List.mem_filter.mp (List.mem_reverse.mp hx)).1 hl)
  have hv' : ∀ x ∈ (scope.names.filter fun x => (x.2 == .local || x.2 == .cell) && x.1 != (".0" : Str)).reverse.drop 1 ++ (scope.names.filter fun x => (x.2 == .local || x.2 == .cell) && x.1 != (".0" : Str)).reverse.take 1,
      x.2 = .local → Env.kindOf { cenv with scope := relabel scope env } x.1 = some .local := fun x hx hl => by
    rcases List.mem_append.mp hx with h1 | h1
    · exact hv x (List.mem_of_mem_drop h1) hl
    · exact hv x (List.mem_of_mem_take h1) hl
  refine wpAny_holding (wpAny_bind (wpAny_attempt (wpAny_holding (wpAny_run (codeAny_mono h₄ fun r s' hr => ?_)))))
  cases r with
  | ok f =>
    cases use with
    | none =>
      obtain ⟨m, hn, hr⟩ := hr
      exact wpAny_bind (wpAny_holding (wpAny_comp_letGo (cenv := { cenv with scope := relabel scope env }) hkind _ s' m hv hn fun h' m' _ hs' => wpAny_pure (hr h' hs')))
    | some u =>
      refine wpAny_bind (wpAny_rule (wpAny_bind (wpAny_holding (wpAny_mono hr (fun _ s'' hr' => ?_) fun _ _ h' => h'))))
      obtain ⟨m, hn, hr'⟩ := hr'
      exact wpAny_bind (wpAny_comp_letGo (cenv := { cenv with scope := relabel scope env }) hkind _ s'' m hv' hn fun h' m' _ hs' => wpAny_pure (hr' h' hs'))
  | error x =>
    have hr' : ∃ m, s'.heap.Ns cenv.locals m ∧ ∀ h', Heap.SameBut cenv.locals s'.heap h' → ∀ c2 : Env, c2.frame = cenv.frame → wpAny M A (PySem.passOn "comprehension.variables-let-go" x c2 : Sem Value) (fun _ _ => False) E { s' with heap := h' } := by cases use <;> exact hr
    obtain ⟨m, hn, hr⟩ := hr'
    exact wpAny_bind (wpAny_holding (wpAny_comp_letGo (cenv := { cenv with scope := relabel scope env }) hkind _ s' m hv hn fun h' m' _ hs' => wpAny_mono (hr h' hs' { cenv with scope := relabel scope env } rfl) (fun _ _ f => f.elim) fun _ _ y => y))
/-! ### an exception that leaves a block -/
section
open HandSPX
variable {M : Model} {A : Around} {E : Value → Shared → Prop} {s : Shared} {Z : Obj → Prop} {base : Heap} {env : Env} {outer l : List Env} {L C e : Addr}
/-- noted by another place already -/
theorem looks_otherZ {Q : Unit → Shared → Prop} (hZ : Steady Z) (hfr : A.frames = some (env :: outer)) (hf : env.frame = some L) (hCL : C ≠ L) (hfl : HeldZ base (env :: outer) e Z C s.heap)
    (hQ : ∀ h', HeldZ base (env :: outer) e Z L h' → s.heap.UpToSlots h' → Q () { s with heap := h' }) : wpAny M A (noteFrame (.ref e) env) Q E s := by
  obtain ⟨hkb, hen, hl, oe, vs, T, oT, ts, he, hz, hd, h1, hnT, hTe, hT, hdT, h3⟩ := hfl
  unfold noteFrame
  simp only [hf]
  refine wpAny_bind (wpAny_field he hd h1 ?_)
  rw [if_pos (show (Value.ref T != Value.none) = true from by simp)]
  refine wpAny_bind (wpAny_field hT hdT h3 ?_)
  rw [if_neg (show ¬ ((rawInt C == rawInt L) = true) from fun q => hCL (Int.ofNat.inj (by simpa [rawInt] using q)))]
  refine wpAny_bind (wpAny_setField hT hdT (Array.getElem?_eq_some_iff.mp h3).1 ?_)
  have other : ∀ b, b ≠ T → (s.heap.update T (Obj.mapFields (·.setIfInBounds 3 Value.none))).get? b = s.heap.get? b := fun b hb => Heap.get?_update_other _ _ (Ne.symm hb)
  have noRecord : ∀ b o, s.heap.get? b = some o → (∀ vs, o.data ≠ .fields vs) → b ≠ T := fun b o hb hnf q => by
    rw [q, hT] at hb; injection hb with hb; subst hb; exact hnf ts hdT
  refine wpAny_entryZ hZ hfr (hl.of_keeps fun b o hb hnf => ⟨o, (other b (noRecord b o hb hnf)).trans hb, rfl⟩) hf ((other e (Ne.symm hTe)).trans he)
    (fun b o hbo => (other b fun q => by rw [q, hnT] at hbo; cases hbo).trans (hkb b o hbo)) hen hd (Array.getElem?_eq_some_iff.mp h1).1 hz fun h' hN => ?_
  obtain ⟨x1, x2, x3, x4⟩ := hN
  exact hQ h' ⟨x1, hen, x2, x3⟩ fun b o hb hnf => x4 b o ((other b (noRecord b o hb hnf)).trans hb) hnf
theorem look_sky {Q : Unit → Shared → Prop} (hZ : Steady Z) (hfr : A.frames = some (env :: outer)) (hf : env.frame = some L) (hCL : C ≠ L) (x : Sky base (env :: outer) e Z C s.heap)
    (hQ : ∀ h', HeldZ base (env :: outer) e Z L h' → s.heap.UpToSlots h' → Q () { s with heap := h' }) : wpAny M A (noteFrame (.ref e) env) Q E s := by
  rcases x with ⟨hB, hn, hl, oe, vs, he, hz, hd, h1⟩ | fl | hh
  · exact look_newZ hZ hfr hl hf he hB hn hd h1 hz hQ
  · exact looks_onZ hZ hfr hf fl hQ
  · exact looks_otherZ hZ hfr hf hCL hh hQ
/-- the block's names are let go -/
theorem held_let {h h' : Heap} {oC : Obj} (hh : HeldZ base l e Z L h) (hC : base.get? C = some oC) (sb : Heap.SameBut C h h') (nl : ∀ b ∈ frs l, b ≠ C) : HeldZ (PySem.W.hideAll base [C]) l e Z L h' := by
  obtain ⟨hkb, hen, hl, oe, vs, T, oT, ts, he, hz, hd, h1, hnT, hTe, hT, hdT, h3⟩ := hh
  have hCh := hkb C oC hC
  have eC : e ≠ C := by rintro rfl; rw [hC] at hen; cases hen
  have TC : T ≠ C := by rintro rfl; rw [hC] at hnT; cases hnT
  have of : ∀ {b : Addr} {o : Obj}, (PySem.W.hideAll base [C]).get? b = some o → base.get? b = some o ∧ b ≠ C := fun {b o} q => by
    refine ⟨PySem.W.of_hideAll _ q, fun z => ?_⟩
    rw [PySem.W.hideAll_none [C] (by rw [z]; simp)] at q
    cases q
  have no : ∀ {b : Addr}, base.get? b = none → (PySem.W.hideAll base [C]).get? b = none := fun {b} q => by
    cases w : (PySem.W.hideAll base [C]).get? b with
    | none => rfl
    | some o => rw [(of w).1] at q; cases q
  refine ⟨fun b o q => ?_, no hen, ?_, oe, vs, T, oT, ts, (sb.2 e eC).trans he, hz, hd, h1, no hnT, hTe, (sb.2 T TC).trans hT, hdT, h3⟩
  · obtain ⟨q1, q2⟩ := of q
    exact (sb.2 b q2).trans (hkb b o q1)
  · induction l with
    | nil => trivial
    | cons en r ih =>
      obtain ⟨hk, ⟨L0, o, hf, hn, ho, hdd⟩, hr⟩ := hl
      refine ⟨hk, ⟨L0, o, hf, no hn, (sb.2 L0 ?_).trans ho, hdd⟩, ih ?_ hr⟩
      · exact nl L0 (List.mem_filterMap.mpr ⟨en, List.mem_cons_self, hf⟩)
      · intro b hb
        obtain ⟨e', he', q⟩ := List.mem_filterMap.mp hb
        exact nl b (List.mem_filterMap.mpr ⟨e', List.mem_cons_of_mem _ he', q⟩)
end
section
variable {X : Cx} {pins : List (Addr × Obj)} {σ : L2.St}
abbrev blkX (X : Cx) (s : Shared) (H : Hp) (scope : Scope) (cenv : Env) (fp : List Addr) (xe : Value → Shared → Prop) : Cx := { X with s_0 := s, H_0 := H, env := cenv, outer := X.stack, ex := fp, fn := fun x => scope.names.lookup x == some .cell, pn := [], xe := xe }
theorem inv_blkX {s s' : Shared} {H H' : Hp} {scope : Scope} {cenv : Env} {fp : List Addr} {p : List (Addr × Obj)} (I : Inv (X.blk s H scope cenv fp) p σ H' s') (xe : Value → Shared → Prop) : Inv (blkX X s H scope cenv fp xe) p σ H' s' :=
  ⟨⟨I.ok.mod, I.ok.kind, I.ok.glob, I.ok.blt, I.ok.above, I.ok.inj, I.ok.has, I.ok.cab, I.ok.hd, I.ok.frames, I.ok.stk, I.ok.exf, I.ok.bs, I.ok.bsz, I.ok.noex, I.ok.exfs, I.ok.funs, I.ok.frf⟩, I.os, I.bare, I.base, I.loc, I.cell, I.free, I.freeC, I.pin, I.hok, I.len⟩
theorem blk_takes {W WB : WX} {s3 : Shared} {H3 : Hp} {scope : Scope} {ce : Env} {fp : List Addr} {use : Option (Value → Sem Unit)} {Qf : Value → Shared → Prop} {acc : Value}
    (I3 : Inv X pins σ H3 s3) (hs : X.stack = X.env :: X.outer) (hf : X.env.frame = some X.env.locals) (tk : Takes X W) (hW : ∀ cls d σ' H', WB cls d σ' H' → W cls d σ H') (cL : ce.locals = s3.heap.objs.size) (cF : ce.frame = X.env.frame)
    (f3 : ∀ b ∈ fp, FpOk X pins H3 b ∧ b < s3.heap.objs.size) :
    Takes (blkX X s3 H3 scope ce fp (notedBy (model X.prog X.w) X.A ce (fun e s' => compPostX (model X.prog X.w) X.A X.xe use Qf acc ce (.error e) s'))) WB := by
  rintro u s' ⟨a, B, sI, pB, σB, H, cls, d, rfl, I, nb, up, sky, na, os, ag, w⟩
  have hfr : X.A.frames = some (X.env :: X.outer) := by rw [I3.ok.frames, hs]
  have hCL : ce.locals ≠ X.env.locals := by
    obtain ⟨m, hm, _⟩ := I3.loc
    rw [cL]
    exact Nat.ne_of_gt hm.lt
  have nfs : ∀ b ∈ frs X.stack, b < s3.heap.objs.size := fun b hb => by
    obtain ⟨_, o, ho, _⟩ := I3.stack.mem hb
    exact Heap.lt_size ho
  have nC : ∀ b ∈ frs X.stack, b ≠ ce.locals := fun b hb e => by
    have := nfs b hb
    rw [e, cL] at this
    exact Nat.lt_irrefl _ this
  obtain ⟨m, hm, _⟩ := I.loc
  have hm : sI.heap.Ns ce.locals m := hm
  obtain ⟨oC, eC, pC, hoC, hrC⟩ := id hm
  have hCB : B.get? ce.locals = some oC := nb _ _ hoC fun hb => nC _ hb rfl
  have hn : noteFrame (.ref a) ce = noteFrame (.ref a) X.env := by
    unfold noteFrame PySem.frameOf
    rw [cF]
  show wpAny _ _ (noteFrame (.ref a) ce) _ _ s'
  rw [hn]
  have sky' : Sky B (X.env :: X.outer) a (Zc cls d) ce.locals s'.heap := by rw [← hs]; exact sky
  refine look_sky Zc.steady hfr hf hCL sky' fun h1 hh1 up1 => ?_
  rw [← hs] at hh1
  have goal : ∃ m, h1.Ns ce.locals m ∧ ∀ h', Heap.SameBut ce.locals h1 h' → ∀ c2 : Env, c2.frame = ce.frame → wpAny (model X.prog X.w) X.A (PySem.passOn "comprehension.variables-let-go" (.ref a) c2 : Sem Value) (fun _ _ => False) X.xe { s' with heap := h' } := by
    refine ⟨m, ⟨oC, eC, pC, hh1.1 _ _ hCB, hrC⟩, fun h' sb c2 hc2 => ?_⟩
    have hh2 := held_let hh1 hCB sb nC
    obtain ⟨k1, k2, k3, k4⟩ := hh2
    unfold PySem.passOn
    obtain ⟨oe, vs, T, oT, ts, he, hz, hd, h1v, _⟩ := id k4
    refine wpAny_bind (wpAny_field he hd h1v ?_)
    rw [if_neg (show ¬ ((Value.ref T == Value.none) = true) from by simp)]
    rw [hc2, cF, hf]
    refine wpAny_bind (HandSPX.setFlight_onZ (base := PySem.W.hideAll B [ce.locals]) (L := X.env.locals) (l := X.stack) ⟨k1, k2, k3, k4⟩ fun h2 hh2 up2 => wpAny_throw (tk _ _ ?_))
    have gone : ∀ {h : Heap} {b : Addr} {o : Obj}, (PySem.W.hideAll h [ce.locals]).get? b = some o → h.get? b = some o ∧ b ≠ ce.locals := fun {h b o} q => by
      refine ⟨PySem.W.of_hideAll _ q, fun z => ?_⟩
      rw [PySem.W.hideAll_none [ce.locals] (by rw [z]; simp)] at q
      cases q
    have stay : ∀ {h : Heap} {b : Addr} {o : Obj}, h.get? b = some o → b ≠ ce.locals → (PySem.W.hideAll h [ce.locals]).get? b = some o := fun {h b o} q n => PySem.W.hideAll_get _ q (by simpa using n)
    have old : ∀ {b : Addr} {o : Obj}, s3.heap.get? b = some o → b ≠ ce.locals := fun {b o} q => by
      rw [cL]
      exact Nat.ne_of_lt (Heap.lt_size q)
    have u0 : Un (frs X.stack) fp H3 H s3.heap sI.heap := I.base
    have nH : H ce.locals = none := I.free
    have J : Inv X pins σ H { sI with heap := PySem.W.hideAll sI.heap [ce.locals] } := by
      refine I3.call' (ch := fp) I.os ⟨fun b o q n h1 h2 => stay (u0.keep b o q n h1 h2) (old q), fun b o q n h1 h2 => ?_, u0.free, fun b o q h1 => ?_, u0.tups, u0.frzs, u0.tbls⟩ (fun b o q => ?_) I.bare fun b hb => ⟨(f3 b hb).1.2.2.2.1, (f3 b hb).1.2.1, (f3 b hb).1.2.2.2.2.1, (f3 b hb).1.2.2.2.2.2⟩
      · obtain ⟨sl, z⟩ := u0.slot b o q n h1 h2
        exact ⟨sl, stay z (old q)⟩
      · obtain ⟨o', z⟩ := u0.there b o q h1
        exact ⟨o', stay z (old q)⟩
      · refine (I.hok b o q).stay (fun c u hc r => stay r fun z => ?_) (fun _ r => r) fun _ _ r => r
        subst z
        rcases hc with hc | hc
        · rw [hc, q] at nH; cases nH
        · rw [hc] at nH; cases nH
    refine ⟨a, PySem.W.hideAll B [ce.locals], _, pins, σ, H, cls, d, rfl, J, fun b o q hb => ?_, fun b o q hnf => ?_, .inr (.inr hh2), na, os, ag, hW _ _ _ _ w⟩
    · obtain ⟨q1, q2⟩ := gone q
      exact stay (nb b o q1 hb) q2
    · obtain ⟨q1, q2⟩ := gone q
      obtain ⟨sl1, z1⟩ := up b o q1 hnf
      obtain ⟨sl2, z2⟩ := up1 b _ z1 hnf
      obtain ⟨sl3, z3⟩ := up2 b _ ((sb.2 b q2).trans z2) hnf
      exact ⟨sl3, z3⟩
  cases use <;> exact goal
theorem inv_ofBlkX {s s' : Shared} {H H' : Hp} {scope : Scope} {cenv : Env} {fp : List Addr} {p : List (Addr × Obj)} {xe : Value → Shared → Prop} (I : Inv (blkX X s H scope cenv fp xe) p σ H' s') : Inv (X.blk s H scope cenv fp) p σ H' s' :=
  ⟨⟨I.ok.mod, I.ok.kind, I.ok.glob, I.ok.blt, I.ok.above, I.ok.inj, I.ok.has, I.ok.cab, I.ok.hd, I.ok.frames, I.ok.stk, I.ok.exf, I.ok.bs, I.ok.bsz, I.ok.noex, I.ok.exfs, I.ok.funs, I.ok.frf⟩, I.os, I.bare, I.base, I.loc, I.cell, I.free, I.freeC, I.pin, I.hok, I.len⟩
/-- the tests and the element, whatever the block; what they may let out -/
structure ElX (X : Cx) (scope : Scope) (elt : Expr) (ifs : List Expr) (tt : L2.TT) (te : L2.TE) (WB : WX) : Prop where
  t : ∀ (s : Shared) (H : Hp) (C : Addr) (cl : List (Str × Addr)) (fp : List Addr) (xe : Value → Shared → Prop), Takes (blkX X s H scope (compEnvC scope cl C X.env) fp xe) WB → PTs (blkX X s H scope (compEnvC scope cl C X.env) fp xe) ifs tt
  e : ∀ (s : Shared) (H : Hp) (C : Addr) (cl : List (Str × Addr)) (fp : List Addr) (xe : Value → Shared → Prop), Takes (blkX X s H scope (compEnvC scope cl C X.env) fp xe) WB → PE (blkX X s H scope (compEnvC scope cl C X.env) fp xe) elt te
def tLcX (X : Cx) (W : WX) (scope : Scope) (elt : Expr) (ifs : List Expr) (wi : L2.TI) (g : L2.TG) (vs : List Nat) : L2.TE := fun σ H Q => wi σ H fun J H1 => ∃ tt te WB, ElX X scope elt ifs tt te WB ∧ (∀ cls d σ' H', WB cls d σ' H' → W cls d σ H') ∧
  ∀ D, H1 D = none → ∃ Wv : Nat → Nat → Hp → Prop, (∃ m, Wv 0 m (upd H1 D (.lst []))) ∧ ∀ i m H, Wv i m H →
  (J.stop i H ∧ Q (.ref D) H) ∨ (J.go i H ∧ ∃ Nx : Hp → Prop, (∀ H', Nx H' → ∃ m', m' < m ∧ Wv (i + 1) m' H') ∧ ∀ x H', J.yld i H x H' → g x (L2.wipe σ vs) H' fun σ2 H2 => L2.wipe σ2 vs = L2.wipe σ vs ∧ tt σ2 H2 fun b H3 =>
    if b = true then te σ2 H3 fun y H4 => ∃ acc, H4 D = some (.lst acc) ∧ acc.length < sizeLine ∧ Nx (upd H4 D (.lst (acc ++ [y]))) else Nx H3)
theorem lc_coreX {s : Shared} {H : Hp} {Q : VK} {elt tg iter : Expr} {ifs : List Expr} {scope : Scope} {own : List (Str × Nat)} {pos pos' : Pos} {wi : L2.TI} {g : L2.TG} {W : WX} {use : Option (Value → Sem Unit)} {Qf : Value → Shared → Prop}
    (hst : X.stack = X.env :: X.outer) (hf : X.env.frame = some X.env.locals) (tk : Takes X W)
    (hc : X.calm = true) (hN : X.N.Nodup) (I : Inv X pins σ H s) (hi : PI X tg iter wi) (ok : BlkOk X.N X.env.scope scope own)
    (hg : ∀ (s : Shared) (H : Hp) (C : Addr) (cl : List (Str × Addr)) (fp : List Addr), PG (X.blk s H scope (compEnvC scope cl C X.env) fp) tg g) (hs : ∀ x, foldedSetIterable iter X.env x = pure x)
    (h : tLcX X W scope elt ifs wi g (own.map (·.2)) σ H Q)
    (hRR : ∀ D ce s' m H', ce.locals = ce.locals → Inv X pins σ H' s' → Q (.ref D) H' → s'.heap.Ns ce.locals m → FpOk X pins H' ce.locals → compPostX (model X.prog X.w) X.A X.xe use Qf (.ref D) ce (.ok .next) s') :
    wpAny (model X.prog X.w) X.A (comprehension (.ListComp elt [⟨tg, iter, ifs, 0⟩] scope pos) scope X.env pos' (newList []) false (eval iter X.env) use) Qf X.xe s := by
  have hfree : ∀ y ∈ scope.names, y.2 = .free → ∃ c, X.env.cells.lookup y.1 = some c := fun y hy e => by
    rcases ok.free y hy e with k | k
    · exact I.ok.has _ (.inl k)
    · exact I.ok.has _ (.inr k)
  refine comprehension_freeX (use := use) rfl hs (closure_ok hfree) ok.kind (fun y hy e => by rw [ok.uniq y hy, e])
    (thn (hi.run pins s σ H _ I h) fun xv s1 hx => thn hx fun itv s2 h2 => ?_)
  obtain ⟨it, fp, tn, J, H2, e, I2, T, st2, f2, q⟩ := h2
  subst e
  obtain ⟨tt, te, WB, el, hWB, q⟩ := q
  refine wpAny_newObj_type (newEnv_comp ?_) (by show 0 ≤ sizeLine; decide)
  generalize hD : s2.heap.objs.size = D
  have hDn : H2 D = none := I2.hok.fresh (Nat.le_of_eq hD)
  obtain ⟨Wv, ⟨m0, w0⟩, turn⟩ := q D hDn
  -- the new list
  generalize hs3 : ({ s2 with heap := s2.heap.push { cls := .type "list", data := .seq ([] : List Value).toArray } } : Shared) = s3
  have I3 : Inv X pins σ (upd H2 D (.lst [])) s3 := by
    rw [← hs3]
    refine I2.laid (t' := s2.toks) (fun b o e => Heap.get?_push_of_some _ e) (Nat.le_of_eq hD) ⟨Nat.zero_le _, [], 0, .nil, ?_⟩
    rw [← hD]
    exact Heap.get?_push_size _ rfl
  have h3 : s3.heap = s2.heap.push { cls := .type "list", data := .seq ([] : List Value).toArray } := by rw [← hs3]
  have sz : ∀ b ∈ fp, b < s2.heap.objs.size := fun b hb => by
    obtain ⟨o, e, _⟩ := T.obj _ _ st2 b hb
    exact Heap.lt_size e
  have f3 : ∀ b ∈ fp, FpOk X pins (upd H2 D (.lst [])) b ∧ b < s3.heap.objs.size := fun b hb => by
    have hlt := sz b hb
    refine ⟨⟨?_, (f2 b hb).2⟩, by rw [h3, Heap.size_push]; exact Nat.lt_succ_of_lt hlt⟩
    rw [upd_ne (by rw [← hD]; exact Nat.ne_of_lt hlt)]
    exact (f2 b hb).1
  have st3 : tn 0 s3.heap := T.keep _ _ _ st2 fun b _ o e => by rw [h3]; exact Heap.get?_push_of_some _ e
  have I4 := block_start I3 ok hN f3
  have pg := hg s3 (upd H2 D (.lst [])) s3.heap.objs.size (cellsFrom (s3.heap.objs.size + 1) scope.names (cloFrom X.env.cells scope.names [])) fp
  have pt := el.t s3 (upd H2 D (.lst [])) s3.heap.objs.size (cellsFrom (s3.heap.objs.size + 1) scope.names (cloFrom X.env.cells scope.names [])) fp
  have pe := el.e s3 (upd H2 D (.lst [])) s3.heap.objs.size (cellsFrom (s3.heap.objs.size + 1) scope.names (cloFrom X.env.cells scope.names [])) fp
  show codeAny _ _ (.compStart (.ListComp elt [⟨tg, iter, ifs, 0⟩] scope pos) 0 (.ref it) (.ref D) (compEnvC scope (cellsFrom (s3.heap.objs.size + 1) scope.names (cloFrom X.env.cells scope.names [])) s3.heap.objs.size X.env)) (compPostX (model X.prog X.w) X.A X.xe use Qf (.ref D) (compEnvC scope (cellsFrom (s3.heap.objs.size + 1) scope.names (cloFrom X.env.cells scope.names [])) s3.heap.objs.size X.env)) { s3 with heap := pushCells (s3.heap.push { cls := .type "dict", data := .dict #[] }) scope.names }
  have nfp : ∀ b ∈ fp, (upd H2 D (.lst [])) b = none := fun b hb => (f3 b hb).1.1
  generalize hce : compEnvC scope (cellsFrom (s3.heap.objs.size + 1) scope.names (cloFrom X.env.cells scope.names [])) s3.heap.objs.size X.env = ce at I4 pg pt pe ⊢
  have cL : ce.locals = s3.heap.objs.size := by subst hce; rfl
  have cF : ce.frame = X.env.frame := by subst hce; rfl
  generalize hH3 : upd H2 D (.lst []) = H3 at I3 I4 pg pt pe w0 nfp f3
  have tkB := blk_takes (scope := scope) (use := use) (Qf := Qf) (acc := .ref D) I3 hst hf tk hWB cL cF f3
  have pt := pt _ tkB
  have pe := pe _ tkB
  generalize hs4 : ({ s3 with heap := pushCells (s3.heap.push { cls := .type "dict", data := .dict #[] }) scope.names } : Shared) = s4 at I4 ⊢
  have st4 : tn 0 s4.heap := T.keep _ _ _ st3 fun b _ o e => by rw [← hs4]; exact pushCells_keeps _ _ _ _ (Heap.get?_push_of_some _ e)
  have stat : ∀ {σ' : St} {H' : Hp} {s' : Shared}, Inv (X.blk s3 H3 scope ce fp) [] σ' H' s' → (∀ b ∈ fp, H' b = none) → ∀ b ∈ fp, FpOk (X.blk s3 H3 scope ce fp) [] H' b := fun {σ' H' s'} I' hn b hb =>
    ⟨hn b hb, (I'.ok.exf b hb).1, I'.ok.exfs b hb, .inl hb, fun x c e => (I'.ok.exf b hb).2 x c e, fun p hp => absurd (show p ∈ ([] : List (Addr × Obj)) ++ [] from hp) (by simp)⟩
  have loop : codeAny (model X.prog X.w) X.A (.compLoop (.ListComp elt [⟨tg, iter, ifs, 0⟩] scope pos) 0 (.ref it) (.ref D) ce) (compPostX (model X.prog X.w) X.A X.xe use Qf (.ref D) ce) s4 := by
    refine compLoop_any (fun n s' => ∃ i H', Inv (X.blk s3 H3 scope ce fp) [] (L2.wipe σ (own.map (·.2))) H' s' ∧ tn i s'.heap ∧ (∀ b ∈ fp, H' b = none) ∧ Wv i n H') ?_ m0 ⟨0, H3, I4, st4, nfp, w0⟩
    rintro n s5 ⟨i, H5, I5, st5, n5, w5⟩
    rcases turn i n H5 w5 with ⟨stop, qq⟩ | ⟨go, Nx, hNx, step⟩
    · have td := T.done (X.blk s3 H3 scope ce fp) rfl rfl rfl hc i [] s5 _ H5 (fun _ _ => False) I5 (stat I5 n5) st5 stop
      refine thnF td fun r s6 ⟨hr, I6⟩ => ?_
      subst hr
      -- back in the def's context
      have I7 : Inv X pins σ H5 s6 := I3.call' (ch := fp) I6.os I6.base I6.hok I6.bare fun b hb => ⟨(f3 b hb).1.2.2.2.1, (f3 b hb).1.2.1, (f3 b hb).1.2.2.2.2.1, (f3 b hb).1.2.2.2.2.2⟩
      have nC : H5 s3.heap.objs.size = none := by
        have z : H5 ce.locals = none := I6.free
        rw [cL] at z
        exact z
      obtain ⟨m, hn, _⟩ := I6.loc
      have hn : s6.heap.Ns ce.locals m := hn
      exact hRR D ce s6 m H5 rfl I7 qq hn (by rw [cL]; exact I3.fpOk (Nat.le_refl _) nC)
    · have ti := T.item (X.blk s3 H3 scope ce fp) rfl rfl rfl hc i [] s5 _ H5 (fun _ _ => False) I5 (stat I5 n5) st5 go
      refine thnF ti fun r s6 ⟨u, hr, h6⟩ => ?_
      subst hr
      refine thnF h6 fun _ s7 ⟨x, H7, I7, r7, y7, st7, n7⟩ => ?_
      have I7' := I7.pinned (stat I7 n7) (T.obj _ _ st7)
      refine thnF (pg.run _ s7 _ H7 x u _ I7' r7 (step x H7 y7)) fun _ s8 ⟨σ8, H8, I8, hw8, q8⟩ => ?_
      refine wpAny_mono (pt.run _ s8 σ8 H8 _ (inv_blkX I8 _) q8) (fun b s9 ⟨H9, I9, q9⟩ => ?_) fun _ _ z => z
      -- the turn's end
      have fin : ∀ {s' : Shared} {H' : Hp}, Inv (X.blk s3 H3 scope ce fp) ([] ++ pinsAt fp s7.heap) σ8 H' s' → Nx H' → ∃ m, m < n ∧ ∃ i H', Inv (X.blk s3 H3 scope ce fp) [] (L2.wipe σ (own.map (·.2))) H' s' ∧ tn i s'.heap ∧ (∀ b ∈ fp, H' b = none) ∧ Wv i m H' := fun {s' H'} I' nx => by
        obtain ⟨m', hm, w'⟩ := hNx H' nx
        have pin' : ∀ b ∈ fp, ∀ o, s7.heap.get? b = some o → s'.heap.get? b = some o ∧ H' b = none := fun b hb o e =>
          let z := I'.pin (b, o) (List.mem_append_right _ (List.mem_append_right _ (mem_pinsAt hb e)))
          ⟨z.1, z.2.1⟩
        have hl : (L2.wipe σ (own.map (·.2))).length = σ8.length := by rw [← hw8, wipe_length]
        refine ⟨m', hm, i + 1, H', (I'.unpinned (pins := [])).weak hl (fun j v e => ?_), T.keep _ _ _ st7 fun b hb o e => (pin' b hb o e).1, fun b hb => ?_, w'⟩
        · rw [← hw8] at e
          exact (wipe_some e).1
        · obtain ⟨o, e, _⟩ := T.obj _ _ st7 b hb
          exact (pin' b hb o e).2
      cases b with
      | false =>
        simp only [Bool.false_eq_true, if_false] at q9 ⊢
        exact fin (inv_ofBlkX I9) q9
      | true =>
        simp only [if_true] at q9 ⊢
        refine wpAny_mono (pe.run _ s9 σ8 H9 _ I9 q9) (fun z s10 ⟨yv, H10, I10, r10, acc, hD10, hz10, nx⟩ => ?_) fun _ _ z => z
        exact app_ok (X := X.blk s3 H3 scope ce fp) (inv_ofBlkX I10) hD10 hz10 r10 fun s11 I11 => fin I11 nx
  exact codeAny_compStart_list loop (T.self X.A 0 _ _ _ st4 loop)
theorem pe_lcX {elt tg iter : Expr} {ifs : List Expr} {scope : Scope} {own : List (Str × Nat)} {pos : Pos} {wi : L2.TI} {g : L2.TG} {W : WX} (hst : X.stack = X.env :: X.outer) (hf : X.env.frame = some X.env.locals) (tk : Takes X W) (hc : X.calm = true) (hN : X.N.Nodup) (hi : PI X tg iter wi) (ok : BlkOk X.N X.env.scope scope own)
    (hg : ∀ (s : Shared) (H : Hp) (C : Addr) (cl : List (Str × Addr)) (fp : List Addr), PG (X.blk s H scope (compEnvC scope cl C X.env) fp) tg g) (hs : ∀ x, foldedSetIterable iter X.env x = pure x := by intro _; rfl) :
    PE X (.ListComp elt [⟨tg, iter, ifs, 0⟩] scope pos) (tLcX X W scope elt ifs wi g (own.map (·.2))) := by
  refine ⟨fun pins s σ H Q I h => ?_⟩
  rw [eval_ListComp]
  refine lc_coreX hst hf tk hc hN I hi ok hg hs h fun D ce s' m H' _ I' q hn f => ⟨m, hn, fun h'' sb => ?_⟩
  obtain ⟨f0, f1, f2, f3, f4, f5⟩ := f
  exact ⟨.ref D, H', I'.turned (t' := s'.toks) (fun b o hb e => (sb.2 b hb).trans e) f0 f1 f3 f4 f5, rfl, q⟩
theorem ps_setLcX {i : Nat} {y : Str} {py : Pos} {elt tg iter : Expr} {ifs : List Expr} {scope : Scope} {own : List (Str × Nat)} {pos spos : Pos} {wi : L2.TI} {g : L2.TG} {W : WX} (hst : X.stack = X.env :: X.outer) (hf : X.env.frame = some X.env.locals) (tk : Takes X W)
    (hc : X.calm = true) (hN : X.N.Nodup) (hy : X.N[i]? = some y) (hyl : X.env.scope.names.lookup y = some .local)
    (hsw : swapsWith (.ListComp elt [⟨tg, iter, ifs, 0⟩] scope pos) (some (.Name y py)) spos.line X.env = pure true) (hi : PI X tg iter wi) (ok : BlkOk X.N X.env.scope scope own)
    (hg : ∀ (s : Shared) (H : Hp) (C : Addr) (cl : List (Str × Addr)) (fp : List Addr), PG (X.blk s H scope (compEnvC scope cl C X.env) fp) tg g) (hs : ∀ x, foldedSetIterable iter X.env x = pure x := by intro _; rfl) :
    PS X (.Assign [.Name y py] (.ListComp elt [⟨tg, iter, ifs, 0⟩] scope pos) spos) (tAsg (tLcX X W scope elt ifs wi g (own.map (·.2))) (L2.gName i)) := by
  refine ⟨fun pins s σ H D I h => ?_⟩
  rw [exec_Assign_Name_used _ _ _ _ hsw]
  refine wpAny_bind (wpAny_standAt (wpAny_bind ?_))
  show wpAny _ X.A (do let _ ← comprehension (.ListComp elt [⟨tg, iter, ifs, 0⟩] scope pos) scope X.env (firstIterPos [⟨tg, iter, ifs, 0⟩] pos) (newList []) false (eval iter X.env) (some (assign (.Name y py) X.env))) _ _ s
  have h : tLcX X W scope elt ifs wi g (own.map (·.2)) σ H (fun x H1 => L2.gName i x σ H1 D.nx) := h
  refine wpAny_bind (thn (lc_coreX (Qf := fun _ s' => SP X pins D .next s') hst hf tk hc hN I hi ok hg hs h fun L ce s' m H' _ I' q hn f => ?_) fun _ s' hq => wpAny_pure (wpAny_pure hq))
  show wpAny _ _ (assign (.Name y py) X.env (.ref L)) _ _ _
  refine wpAny_assign_Name (store_ok2 (v := V.ref L) I' hN hy (.inl hyl) rfl (fun s2 I2 ⟨a, sb, ha⟩ => ?_) (.inr hyl))
  obtain ⟨f0, f1, f2, f3, f4, f5⟩ := f
  have haC : ce.locals ≠ a := by
    rcases ha with z | z
    · rw [z]; exact f1
    · exact fun e => f4 y a z e.symm
  refine ⟨m, hn.sameBut sb haC, fun h3 sb3 => ?_⟩
  exact ⟨_, H', I2.turned (t' := s2.toks) (fun b o hb e => (sb3.2 b hb).trans e) f0 f1 f3 f4 f5, q⟩
end
/-! ### by values -/
def canEZ (K : Frag) (E : EX) (t3 : TE) : L2.TE := fun σ H Q => ∃ γ G Q3, RepS K E.h0 H γ σ ∧ Rel K H G ∧ t3 γ G (E γ) Q3 ∧ ∀ v H' w G', Ext K H H' → Rel K H' G' → Rep K H' w v → Q3 w G' → Q v H'
def canTZ (K : Frag) (E : EX) (t3 : TT) : L2.TT := fun σ H Q => ∃ γ G Q3, RepS K E.h0 H γ σ ∧ Rel K H G ∧ t3 γ G (E γ) Q3 ∧ ∀ b H' G', Ext K H H' → Rel K H' G' → Q3 b G' → Q b H'
theorem PE3.canZ {X : Cx} {e : Expr} {te : TE} (h : PE3 X e te) (E : EX) (tk : TakesE X E) : PE X e (canEZ X.K E te) := by
  refine ⟨fun pins s σ H Q I ⟨γ, G, Q3, hs, hr, h3, k⟩ => ?_⟩
  obtain ⟨t, p, q⟩ := h E tk
  exact p.run pins s σ H Q I (q σ H γ G Q3 Q hs hr h3 k)
theorem PT3.canZ {X : Cx} {e : Expr} {te : TT} (h : PT3 X e te) (E : EX) (tk : TakesE X E) : PT X e (canTZ X.K E te) := by
  refine ⟨fun pins s σ H Q I ⟨γ, G, Q3, hs, hr, h3, k⟩ => ?_⟩
  obtain ⟨t, p, q⟩ := h E tk
  exact p.run pins s σ H Q I (q σ H γ G Q3 Q hs hr h3 k)
def PTs3X (X : Cx) (ifs : List Expr) (t3 : TT) : Prop := ∀ E : EX, TakesE X E → PTs X ifs (canTZ X.K E t3)
theorem pts3x_nil {X : Cx} : PTs3X X [] tYes := fun E tk => ⟨fun pins s σ H Q I ⟨γ, G, Q3, hs, hr, h3, k⟩ => pts_nil.run pins s σ H Q I (k true H G .refl hr h3)⟩
theorem pts3x_one {X : Cx} {c : Expr} {t : TT} (h : PT3 X c t) : PTs3X X [c] t := fun E tk => pts_one (h.canZ E tk)
section
variable {X : Cx}
theorem lc_simX {J : L2.It} {J3 : It} {g3 : TG} {t3 : TT} {e3 : TE} {is vs : List Nat} {Q3 : QV} {Q : VK} {all : List W} {σ : St} {H : Hp} {γ : Fr} {G : Gh} {D : Addr} {x0 : XQ}
    (hJ : SimIt X.K H J J3) (hv : ∀ i ∈ is, i ∈ vs) (hs : RepS X.K H H γ σ) (hr : Rel X.K (upd H D (.lst [])) (up G D (.lst []))) (hD : H D = none)
    (h : lcL J3 all g3 t3 e3 (wipe γ vs) D x0 Q3 all [] (up G D (.lst []))) (k : ∀ v H' w G', Ext X.K H H' → Rel X.K H' G' → Rep X.K H' w v → Q3 w G' → Q v H') :
    ∃ Wv : Nat → Nat → Hp → Prop, (∃ m, Wv 0 m (upd H D (.lst []))) ∧ ∀ i m H1, Wv i m H1 →
      (J.stop i H1 ∧ Q (.ref D) H1) ∨ (J.go i H1 ∧ ∃ Nx : Hp → Prop, (∀ H', Nx H' → ∃ m', m' < m ∧ Wv (i + 1) m' H') ∧ ∀ x H', J.yld i H1 x H' → canG X.K is g3 x (L2.wipe σ vs) H' fun σ2 H2 => L2.wipe σ2 vs = L2.wipe σ vs ∧ canTZ X.K ⟨fun _ => x0, H⟩ t3 σ2 H2 fun b H3 =>
        if b = true then canEZ X.K ⟨fun _ => x0, H⟩ e3 σ2 H3 fun y H4 => ∃ acc, H4 D = some (.lst acc) ∧ acc.length < sizeLine ∧ Nx (upd H4 D (.lst (acc ++ [y]))) else Nx H3) := by
  refine ⟨fun i m H' => m = all.length - i ∧ i ≤ all.length ∧ ∃ acc G', Ext X.K H H' ∧ Rel X.K H' G' ∧ lcL J3 all g3 t3 e3 (wipe γ vs) D x0 Q3 (all.drop i) acc G', ⟨_, rfl, Nat.zero_le _, [], _, .new hD, hr, h⟩, ?_⟩
  rintro i m H1 ⟨rfl, hi, acc, G1, x1, r1, h1⟩
  by_cases hlt : i < all.length
  · rw [List.drop_eq_getElem_cons hlt, lcL] at h1
    obtain ⟨ej, eD, h1⟩ := h1
    obtain ⟨go, yl⟩ := (hJ i H1 G1 all x1 r1 ej).1 all[i] (by simp [hlt])
    refine .inr ⟨go, fun H' => ∃ acc G', Ext X.K H H' ∧ Rel X.K H' G' ∧ lcL J3 all g3 t3 e3 (wipe γ vs) D x0 Q3 (all.drop (i + 1)) acc G', fun H' q => ⟨_, by omega, rfl, hlt, q⟩, fun x H2 y => ?_⟩
    obtain ⟨x2, r2, rx⟩ := yl x H2 y
    have hs2 : RepS X.K H H2 (wipe γ vs) (L2.wipe σ vs) := (hs.wipe vs).ext (x1.trans x2)
    refine ⟨_, _, _, _, _, hs2, r2, rx, h1, fun σ3 H3 γ3 G3 x3 s3 r3 o3 h3 => ⟨(o3.wiped hv).trans wipe_wipe, _, _, _, s3, r3, h3, fun b H4 G4 x4 r4 h4 => ?_⟩⟩
    cases b with
    | true =>
      refine iteT ⟨_, _, _, s3.ext x4, r4, by simpa using h4, fun v5 H5 w5 G5 x5 r5 rv5 h5 => ?_⟩
      obtain ⟨e5, z5, h5⟩ := h5
      obtain ⟨xs, ex, rx⟩ := r5.lst e5
      refine ⟨xs, ex, by rw [← rx.length]; exact z5, acc ++ [w5], _, ?_, ?_, h5⟩
      · exact (((x1.trans x2).trans x3).trans (x4.trans x5)).trans (.write (by rw [ex]; trivial))
      · exact r5.write (by rw [ex]; trivial) ⟨_, upd_same, (rx.append (.one rv5)).ext (.write (by rw [ex]; trivial))⟩
    | false => exact iteF ⟨acc, _, ((x1.trans x2).trans x3).trans x4, r4, by simpa using h4⟩
  · have e : i = all.length := by omega
    subst e
    rw [List.drop_length, lcL] at h1
    exact .inl ⟨(hJ _ H1 G1 all x1 r1 h1.1).2 (Nat.le_refl _), k _ H1 _ G1 x1 r1 rref h1.2.2⟩
theorem lowX_out {K : Frag} {E : EX} {σ : St} {H H1 : Hp} {γ : Fr} (hs : RepS K E.h0 H γ σ) (x : Ext K H H1) (cls : Value) (d : Option Addr) (σ' : St) (H' : Hp) (w : lowX K ⟨fun _ => E γ, H1⟩ cls d σ' H') : lowX K E cls d σ H' := by
  obtain ⟨γ', G, u, ws, hs', hr, e1, e2, e3⟩ := w
  exact ⟨γ, G, u, ws, hs.ext (x.trans hs'.x), hr, e1, e2, e3⟩
theorem pe3_lcX {elt tg iter : Expr} {ifs : List Expr} {scope : Scope} {own : List (Str × Nat)} {is : List Nat} {pos : Pos} {wi : TI} {g : TG} {tt : TT} {te : TE} (hst : X.stack = X.env :: X.outer) (hf : X.env.frame = some X.env.locals) (hc : X.calm = true) (hN : X.N.Nodup) (hi : PI3 X tg iter wi) (ok : BlkOk X.N X.env.scope scope own)
    (hg : ∀ (s : Shared) (H : Hp) (C : Addr) (cl : List (Str × Addr)) (fp : List Addr), PG3 (X.blk s H scope (compEnvC scope cl C X.env) fp) tg is g) (ht : ∀ (s : Shared) (H : Hp) (C : Addr) (cl : List (Str × Addr)) (fp : List Addr) (xe : Value → Shared → Prop), PTs3X (blkX X s H scope (compEnvC scope cl C X.env) fp xe) ifs tt)
    (he : ∀ (s : Shared) (H : Hp) (C : Addr) (cl : List (Str × Addr)) (fp : List Addr) (xe : Value → Shared → Prop), PE3 (blkX X s H scope (compEnvC scope cl C X.env) fp xe) elt te) (hv : ∀ i ∈ is, i ∈ own.map (·.2) := by decide) (hs : ∀ x, foldedSetIterable iter X.env x = pure x := by intro _; rfl) :
    PE3 X (.ListComp elt [⟨tg, iter, ifs, 0⟩] scope pos) (eLcX wi g tt te (own.map (·.2))) := fun E tk => by
  obtain ⟨t1, p1, q1⟩ := hi E tk
  refine ⟨_, pe_lcX (W := lowX X.K E) (g := canG X.K is g) hst hf tk hc hN p1 ok (fun s H C cl fp => (hg s H C cl fp).can) hs, fun σ H γ G Q3 Q hs hr h3 k => ?_⟩
  refine q1 σ H γ G _ _ hs hr h3 fun J J3 H1 G1 x r sj h => ?_
  refine ⟨canTZ X.K ⟨fun _ => E γ, H1⟩ tt, canEZ X.K ⟨fun _ => E γ, H1⟩ te, lowX X.K ⟨fun _ => E γ, H1⟩, ⟨fun s H C cl fp xe tb => ht s H C cl fp xe _ tb, fun s H C cl fp xe tb => (he s H C cl fp xe).canZ _ tb⟩, lowX_out hs x, fun D hD => ?_⟩
  obtain ⟨all, _, h⟩ := h D (r.free hD)
  exact lc_simX sj hv ⟨(hs.ext x).f, .refl⟩ (r.new hD ⟨_, upd_same, .nil⟩) hD h fun v H' w G' y => k v H' w G' (x.trans y)
theorem ps3_setLcX {i : Nat} {y : Str} {py : Pos} {elt tg iter : Expr} {ifs : List Expr} {scope : Scope} {own : List (Str × Nat)} {is : List Nat} {pos spos : Pos} {wi : TI} {g : TG} {tt : TT} {te : TE} (hst : X.stack = X.env :: X.outer) (hf : X.env.frame = some X.env.locals) (hc : X.calm = true) (hN : X.N.Nodup) (hy : X.N[i]? = some y) (hyl : X.env.scope.names.lookup y = some .local)
    (hsw : swapsWith (.ListComp elt [⟨tg, iter, ifs, 0⟩] scope pos) (some (.Name y py)) spos.line X.env = pure true) (hi : PI3 X tg iter wi) (ok : BlkOk X.N X.env.scope scope own)
    (hg : ∀ (s : Shared) (H : Hp) (C : Addr) (cl : List (Str × Addr)) (fp : List Addr), PG3 (X.blk s H scope (compEnvC scope cl C X.env) fp) tg is g) (ht : ∀ (s : Shared) (H : Hp) (C : Addr) (cl : List (Str × Addr)) (fp : List Addr) (xe : Value → Shared → Prop), PTs3X (blkX X s H scope (compEnvC scope cl C X.env) fp xe) ifs tt)
    (he : ∀ (s : Shared) (H : Hp) (C : Addr) (cl : List (Str × Addr)) (fp : List Addr) (xe : Value → Shared → Prop), PE3 (blkX X s H scope (compEnvC scope cl C X.env) fp xe) elt te) (hv : ∀ i ∈ is, i ∈ own.map (·.2) := by decide) (hs : ∀ x, foldedSetIterable iter X.env x = pure x := by intro _; rfl) :
    PS3 X (.Assign [.Name y py] (.ListComp elt [⟨tg, iter, ifs, 0⟩] scope pos) spos) (sSet i (eLcX wi g tt te (own.map (·.2)))) := fun E tk => by
  obtain ⟨t1, p1, q1⟩ := hi E tk
  refine ⟨_, ps_setLcX (W := lowX X.K E) (g := canG X.K is g) hst hf tk hc hN hy hyl hsw p1 ok (fun s H C cl fp => (hg s H C cl fp).can) hs, fun D D3 σ H γ G hE ho hs hr h3 => ?_⟩
  have hE' := hE
  refine q1 σ H γ G _ _ hs hr (by rw [← hE']; exact h3) fun J J3 H1 G1 x r sj h => ?_
  refine ⟨canTZ X.K ⟨fun _ => E γ, H1⟩ tt, canEZ X.K ⟨fun _ => E γ, H1⟩ te, lowX X.K ⟨fun _ => E γ, H1⟩, ⟨fun s H C cl fp xe tb => ht s H C cl fp xe _ tb, fun s H C cl fp xe tb => (he s H C cl fp xe).canZ _ tb⟩, lowX_out hs x, fun D hD => ?_⟩
  obtain ⟨all, _, h⟩ := h D (r.free hD)
  rw [hE'] at h
  exact lc_simX sj hv ⟨(hs.ext x).f, .refl⟩ (r.new hD ⟨_, upd_same, .nil⟩) hD h fun v H' w G' y r' rv h => ho.nx _ H' _ G' (x.trans y) ((hs.ext (x.trans y)).put rv) r' h
end
end L3

end
section
namespace L3.Lw
open L3
def c_LETTERS : W := .str [97, 98, 99, 100, 101, 102, 103, 104, 105, 106, 107, 108, 109, 110, 111, 112, 113, 114, 115, 116, 117, 118, 119, 120, 121, 122, 65, 66, 67, 68, 69, 70, 71, 72, 73, 74, 75, 76, 77, 78, 79, 80, 81, 82, 83, 84, 85, 86, 87, 88, 89, 90]
def c_DIGITS : W := .str [48, 49, 50, 51, 52, 53, 54, 55, 56, 57]
def c_NAME_CHARACTERS : W := .str [97, 98, 99, 100, 101, 102, 103, 104, 105, 106, 107, 108, 109, 110, 111, 112, 113, 114, 115, 116, 117, 118, 119, 120, 121, 122, 65, 66, 67, 68, 69, 70, 71, 72, 73, 74, 75, 76, 77, 78, 79, 80, 81, 82, 83, 84, 85, 86, 87, 88, 89, 90, 48, 49, 50, 51, 52, 53, 54, 55, 56, 57, 95]
def c_SIGNS : W := .str [40, 41, 91, 93, 44, 58, 46, 61, 60, 43, 45, 42, 47]
def c_WORDS : W := .ktp [.str [105, 109, 112, 111, 114, 116], .str [100, 97, 116, 97], .str [116, 114, 97, 105, 116], .str [119, 105, 116, 104], .str [105, 109, 112, 108], .str [102, 111, 114], .str [100, 101, 102], .str [108, 101, 116], .str [105, 110], .str [105, 102], .str [116, 104, 101, 110], .str [101, 108, 115, 101], .str [108, 111, 111, 112], .str [116, 105, 109, 101, 115], .str [100, 111], .str [110, 111, 116], .str [97, 110, 100], .str [111, 114], .str [84, 114, 117, 101], .str [70, 97, 108, 115, 101]]
def c_SIZE : W := .int 4294967296
def c_SIGNS_codes : W := .ktp [.str [43], .str [45], .str [42], .str [47], .str [61, 61], .str [60]]
def c_DIGITS_codetext : W := .str [48, 49, 50, 51, 52, 53, 54, 55, 56, 57]
def c_MOST_DIGITS : W := .int 10
def kd_SHAPES : KD := [([112, 117, 115, 104], .ktp [.str [100, 97, 116, 97]]), ([108, 111, 97, 100], .ktp [.str [110, 117, 109, 98, 101, 114]]), ([115, 116, 111, 114, 101], .ktp [.str [110, 117, 109, 98, 101, 114]]), ([115, 105, 103, 110], .ktp [.str [115, 105, 103, 110]]), ([110, 111, 116], .ktp []), ([109, 105, 110, 117, 115], .ktp []), ([106, 117, 109, 112], .ktp [.str [110, 117, 109, 98, 101, 114]]), ([117, 110, 108, 101, 115, 115], .ktp [.str [110, 117, 109, 98, 101, 114]]), ([109, 97, 107, 101], .ktp [.str [110, 97, 109, 101], .str [110, 97, 109, 101], .str [110, 117, 109, 98, 101, 114]]), ([102, 105, 101, 108, 100], .ktp [.str [110, 97, 109, 101]]), ([99, 97, 108, 108], .ktp [.str [110, 97, 109, 101], .str [110, 117, 109, 98, 101, 114], .str [110, 117, 109, 98, 101, 114]]), ([109, 101, 116, 104, 111, 100], .ktp [.str [110, 97, 109, 101], .str [110, 117, 109, 98, 101, 114], .str [110, 117, 109, 98, 101, 114]])]
def rd_run_end_c0 : TT := tAnd (tV (eOp rLt (eVar 3) (eBlt bLen (aCons (eVar 0) (aNil))))) (tV (eOp rInD (eOp rAt (eVar 0) (eVar 3)) (eVar 2)))
def rd_run_end_b1 : TS := sAug 3 rIadd (eC (.int 1))
/-- run_end -/
def rd_run_end : TS := sSeq (sSet 3 (eVar 1)) (sSeq (sWhile (rd_run_end_c0) (rd_run_end_b1)) (sRet (eVar 3)))
/-- token_at -/
def rd_token_at (s_run_end : Sp) : TS := sSeq (sSet 2 (eOp rAt (eVar 0) (eVar 1))) (sSeq (sIf (tV (eOp rInD (eVar 2) (eC c_LETTERS))) (sSeq (sSet 3 (eCall s_run_end (aCons (eVar 0) (aCons (eVar 1) (aCons (eC c_NAME_CHARACTERS) (aNil)))))) (sSeq (sIf (tV (eOp rInD (eSl (eVar 0) (oPart (eVar 1)) (oPart (eVar 3))) (eC c_WORDS))) (sRet (eTup (aCons (eC (.str [119, 111, 114, 100])) (aCons (eVar 1) (aCons (eVar 3) (aNil)))))) (sNext)) (sRet (eTup (aCons (eC (.str [110, 97, 109, 101])) (aCons (eVar 1) (aCons (eVar 3) (aNil)))))))) (sNext)) (sSeq (sIf (tV (eOp rInD (eVar 2) (eC c_DIGITS))) (sRet (eTup (aCons (eC (.str [110, 117, 109, 98, 101, 114])) (aCons (eVar 1) (aCons (eCall s_run_end (aCons (eVar 0) (aCons (eVar 1) (aCons (eC c_DIGITS) (aNil))))) (aNil)))))) (sNext)) (sSeq (sIf (tV (eOp rEq (eSl (eVar 0) (oPart (eVar 1)) (oPart (eOp rAdd (eVar 1) (eC (.int 2))))) (eC (.str [61, 61])))) (sRet (eTup (aCons (eC (.str [115, 105, 103, 110])) (aCons (eVar 1) (aCons (eOp rAdd (eVar 1) (eC (.int 2))) (aNil)))))) (sNext)) (sSeq (sIf (tV (eOp rInD (eVar 2) (eC c_SIGNS))) (sRet (eTup (aCons (eC (.str [115, 105, 103, 110])) (aCons (eVar 1) (aCons (eOp rAdd (eVar 1) (eC (.int 1))) (aNil)))))) (sNext)) (sRet (eTup (aCons (eC (.str [119, 114, 111, 110, 103])) (aCons (eVar 1) (aCons (eOp rAdd (eVar 1) (eC (.int 1))) (aNil))))))))))
def rd_tokens_between_c0 : TT := tV (eOp rLt (eVar 4) (eVar 2))
def rd_tokens_between_b1 (s_token_at : Sp) : TS := sIf (tOr (tV (eOp rEq (eOp rAt (eVar 0) (eVar 4)) (eC (.str [32])))) (tV (eOp rEq (eOp rAt (eVar 0) (eVar 4)) (eC (.str [10]))))) (sAug 4 rIadd (eC (.int 1))) (sIf (tV (eOp rEq (eOp rAt (eVar 0) (eVar 4)) (eC (.str [35])))) (sSeq (sSet 5 (eBm "str" mFind3 (eVar 0) (aCons (eC (.str [10])) (aCons (eVar 4) (aNil))))) (sSet 4 (eIf (tV (eOp rLt (eVar 5) (eC (.int 0)))) (eVar 2) (eVar 5)))) (sSeq (sSet 6 (eCall s_token_at (aCons (eVar 0) (aCons (eVar 4) (aNil))))) (sSeq (sDrop (eBm "list" mAppend (eVar 3) (aCons (eVar 6) (aNil)))) (sSet 4 (eOp rAt (eVar 6) (eC (.int 2)))))))
/-- tokens_between -/
def rd_tokens_between (s_token_at : Sp) : TS := sSeq (sSet 3 (eLst (aNil))) (sSeq (sSet 4 (eVar 1)) (sSeq (sWhile (rd_tokens_between_c0) (rd_tokens_between_b1 s_token_at)) (sRet (eVar 3))))
/-- tokens -/
def rd_tokens (s_tokens_between : Sp) : TS := sRet (eCall s_tokens_between (aCons (eVar 0) (aCons (eC (.int 0)) (aCons (eBlt bLen (aCons (eVar 0) (aNil))) (aNil)))))
/-- is_name -/
def rd_is_name (s_tokens : Sp) : TS := sRet (eOp rEq (eCall s_tokens (aCons (eVar 0) (aNil))) (eLst (aCons (eTup (aCons (eC (.str [110, 97, 109, 101])) (aCons (eC (.int 0)) (aCons (eBlt bLen (aCons (eVar 0) (aNil))) (aNil))))) (aNil))))
def rd_format_code_b0 : TS := sDrop (eBm "list" mAppend (eVar 1) (aCons (eOp rAdd (eBm "str" mJoin (eC (.str [32])) (aCons (eLc (iVal (eVar 2)) (gName 3) (tYes) (eBlt bStr (aCons (eVar 3) (aNil))) [3]) (aNil))) (eC (.str [10]))) (aNil)))
/-- format_code -/
def rd_format_code : TS := sSeq (sSet 1 (eLst (aCons (eOp rAdd (eOp rAdd (eC (.str [99, 111, 100, 101, 32])) (eBlt bStr (aCons (eOp rAt (eVar 0) (eC (.int 0))) (aNil)))) (eC (.str [10]))) (aNil)))) (sSeq (sFor (iVal (eOp rAt (eVar 0) (eC (.int 1)))) (gName 2) (rd_format_code_b0)) (sRet (eBm "str" mJoin (eC (.str [])) (aCons (eVar 1) (aNil)))))
/-- number_in -/
def rd_number_in (C_InvalidCode : Nat) : TS := sSeq (sIf (tOr (tV (eOp rEq (eVar 0) (eC (.str [])))) (tOr (tV (eOp rGt (eBlt bLen (aCons (eVar 0) (aNil))) (eC c_MOST_DIGITS))) (tAnd (tV (eOp rEq (eOp rAt (eVar 0) (eC (.int 0))) (eC (.str [48])))) (tV (eOp rGt (eBlt bLen (aCons (eVar 0) (aNil))) (eC (.int 1))))))) (sThrow C_InvalidCode) (sNext)) (sSeq (sIf (tOr (tNot (tTru (eBlt bAll (aCons (eLc (iVal (eVar 0)) (gName 1) (tYes) (eOp rInD (eVar 1) (eC c_DIGITS_codetext)) [1]) (aNil))))) (tV (eOp rGe (eBlt bInt (aCons (eVar 0) (aNil))) (eC c_SIZE)))) (sThrow C_InvalidCode) (sNext)) (sRet (eBlt bInt (aCons (eVar 0) (aNil)))))
/-- item_in -/
def rd_item_in (C_InvalidCode : Nat) (s_number_in : Sp) (s_is_name : Sp) : TS := sSeq (sIf (tAnd (tV (eOp rEq (eVar 1) (eC (.str [100, 97, 116, 97])))) (tV (eOp rInD (eVar 0) (eTup (aCons (eC (.str [84, 114, 117, 101])) (aCons (eC (.str [70, 97, 108, 115, 101])) (aNil))))))) (sRet (eOp rEq (eVar 0) (eC (.str [84, 114, 117, 101])))) (sNext)) (sSeq (sIf (tV (eOp rInD (eVar 1) (eTup (aCons (eC (.str [100, 97, 116, 97])) (aCons (eC (.str [110, 117, 109, 98, 101, 114])) (aNil)))))) (sRet (eCall s_number_in (aCons (eVar 0) (aNil)))) (sNext)) (sSeq (sIf (tOr (tAnd (tV (eOp rEq (eVar 1) (eC (.str [115, 105, 103, 110])))) (tV (eOp rInD (eVar 0) (eC c_SIGNS_codes)))) (tAnd (tV (eOp rEq (eVar 1) (eC (.str [110, 97, 109, 101])))) (tTru (eCall s_is_name (aCons (eVar 0) (aNil)))))) (sRet (eVar 0)) (sNext)) (sThrow C_InvalidCode)))
/-- instruction_in -/
def rd_instruction_in (C_InvalidCode : Nat) (s_item_in : Sp) : TS := sSeq (sSet 1 (eBm "str" mSplit (eVar 0) (aCons (eC (.str [32])) (aNil)))) (sSeq (sSet 2 (eKget kd_SHAPES (eOp rAt (eVar 1) (eC (.int 0))))) (sSeq (sIf (tOr (tV (eOp rIs (eVar 2) (eC .non))) (tV (eOp rNe (eBlt bLen (aCons (eVar 2) (aNil))) (eOp rSub (eBlt bLen (aCons (eVar 1) (aNil))) (eC (.int 1)))))) (sThrow C_InvalidCode) (sNext)) (sRet (eOp rAdd (eTup (aCons (eOp rAt (eVar 1) (eC (.int 0))) (aNil))) (eBlt bTuple (aCons (eLcX (iZipG (aCons (eSl (eVar 1) (oPart (eC (.int 1))) (oNo)) (aCons (eVar 2) (aNil)))) (gTup 2 (gCons (gName 3) (gCons (gName 4) (gNil)))) (tYes) (eCall s_item_in (aCons (eVar 3) (aCons (eVar 4) (aNil)))) [3, 4]) (aNil)))))))
/-- parse_code -/
def rd_parse_code (C_InvalidCode : Nat) (s_number_in : Sp) (s_instruction_in : Sp) : TS := sSeq (sSet 1 (eBm "str" mSplit (eVar 0) (aCons (eC (.str [10])) (aNil)))) (sSeq (sIf (tOr (tV (eOp rLt (eBlt bLen (aCons (eVar 1) (aNil))) (eC (.int 3)))) (tOr (tV (eOp rNe (eOp rAt (eVar 1) (eUn rNeg (eC (.int 1)))) (eC (.str [])))) (tV (eOp rNe (eSl (eOp rAt (eVar 1) (eC (.int 0))) (oNo) (oPart (eC (.int 5)))) (eC (.str [99, 111, 100, 101, 32])))))) (sThrow C_InvalidCode) (sNext)) (sRet (eTup (aCons (eCall s_number_in (aCons (eSl (eOp rAt (eVar 1) (eC (.int 0))) (oPart (eC (.int 5))) (oNo)) (aNil))) (aCons (eBlt bTuple (aCons (eLcX (iVal (eSl (eVar 1) (oPart (eC (.int 1))) (oPart (eUn rNeg (eC (.int 1)))))) (gName 2) (tYes) (eCall s_instruction_in (aCons (eVar 2) (aNil))) [2]) (aNil))) (aNil))))))
def rd_law_tape_b0 : TS := sSet 2 (eOp rMod (eBlt bInt (aCons (eOp rAdd (eOp rMul (eVar 2) (eC (.int 31))) (eVar 3)) (aNil))) (eC (.int 2147483647)))
/-- _law_tape -/
def rd_law_tape : TS := sSeq (sSet 1 (eLc (iVal (eVar 0)) (gName 3) (tYes) (eBlt bAbs (aCons (eBlt bInt (aCons (eVar 3) (aNil))) (aNil))) [3])) (sSeq (sSet 2 (eC (.int 7))) (sSeq (sFor (iVal (eVar 1)) (gName 3) (rd_law_tape_b0)) (sRet (eDict [(eC (.str [99, 101, 108, 108, 115]), eVar 1), (eC (.str [97, 116]), eC (.int 0)), (eC (.str [108, 101, 102, 116]), eC (.int 0)), (eC (.str [115, 101, 101, 100]), eVar 2), (eC (.str [115, 97, 108, 116]), eC (.int 0))]))))
/-- _law_take -/
def rd_law_take : TS := sSeq (sIf (tAnd (tV (eOp rEq (eOp rDget (eVar 0) (eC (.str [108, 101, 102, 116]))) (eC (.int 0)))) (tV (eOp rLt (eOp rDget (eVar 0) (eC (.str [97, 116]))) (eBlt bLen (aCons (eOp rDget (eVar 0) (eC (.str [99, 101, 108, 108, 115]))) (aNil)))))) (sSeq (sDput (eOp rIx (eOp rDget (eVar 0) (eC (.str [99, 101, 108, 108, 115]))) (eOp rDget (eVar 0) (eC (.str [97, 116])))) (eVar 0) (eC (.str [108, 101, 102, 116]))) (sDput (eOp rAdd (eOp rDget (eVar 0) (eC (.str [97, 116]))) (eC (.int 1))) (eVar 0) (eC (.str [97, 116])))) (sNext)) (sSeq (sIf (tV (eOp rGt (eOp rDget (eVar 0) (eC (.str [108, 101, 102, 116]))) (eC (.int 0)))) (sSeq (sSet 3 (eOp rMod (eBlt bInt (aCons (eOp rDget (eVar 0) (eC (.str [108, 101, 102, 116]))) (aNil))) (eVar 1))) (sSeq (sDput (eOp rDiv (eOp rDget (eVar 0) (eC (.str [108, 101, 102, 116]))) (eVar 1)) (eVar 0) (eC (.str [108, 101, 102, 116]))) (sRet (eVar 3)))) (sNext)) (sSeq (sDput (eOp rAdd (eOp rDget (eVar 0) (eC (.str [115, 97, 108, 116]))) (eC (.int 1))) (eVar 0) (eC (.str [115, 97, 108, 116]))) (sSeq (sSet 2 (eOp rMod (eBlt bInt (aCons (eOp rAdd (eOp rMul (eOp rDget (eVar 0) (eC (.str [115, 101, 101, 100]))) (eC (.int 48271))) (eOp rMul (eOp rDget (eVar 0) (eC (.str [115, 97, 108, 116]))) (eC (.int 69621)))) (aNil))) (eC (.int 2147483647)))) (sSeq (sSet 2 (eOp rMod (eBlt bInt (aCons (eOp rAdd (eOp rAdd (eOp rMul (eVar 2) (eVar 2)) (eOp rMul (eOp rDget (eVar 0) (eC (.str [115, 97, 108, 116]))) (eC (.int 40692)))) (eC (.int 12345))) (aNil))) (eC (.int 2147483399)))) (sRet (eOp rMod (eBlt bInt (aCons (eVar 2) (aNil))) (eVar 1)))))))
/-- _law_is_integer -/
def rd_law_is_integer : TS := sRet (eAnd (eBlt bIsi (aCons (eVar 0) (aCons (eC (.ty "int")) (aNil)))) (eNot (eBlt bIsi (aCons (eVar 0) (aCons (eC (.ty "bool")) (aNil))))))
def rd_law_same_items_b0 (s_law_same : Sp) : TS := sIf (tNot (tTru (eCall s_law_same (aCons (eOp rIx (eVar 0) (eVar 2)) (aCons (eOp rIx (eVar 1) (eVar 2)) (aNil)))))) (sRet (eC (.bl false))) (sNext)
/-- _law_same_items -/
def rd_law_same_items (s_law_same : Sp) : TS := sSeq (sIf (tV (eOp rNe (eBlt bLen (aCons (eVar 0) (aNil))) (eBlt bLen (aCons (eVar 1) (aNil))))) (sRet (eC (.bl false))) (sNext)) (sSeq (sFor (iRng1 (aCons (eBlt bLen (aCons (eVar 1) (aNil))) (aNil))) (gName 2) (rd_law_same_items_b0 s_law_same)) (sRet (eC (.bl true))))
def rd_law_same_b0 (s_law_same : Sp) : TS := sIf (tOr (tV (eOp rNotIn (eVar 2) (eVar 0))) (tNot (tTru (eCall s_law_same (aCons (eOp rIx (eVar 0) (eVar 2)) (aCons (eOp rIx (eVar 1) (eVar 2)) (aNil))))))) (sRet (eC (.bl false))) (sNext)
def rd_law_same_b1 : TS := sIf (tTru (eBlt bIsi (aCons (eVar 2) (aCons (eC (.ty "bool")) (aNil))))) (sRet (eC (.bl false))) (sNext)
/-- _law_same -/
def rd_law_same (s_law_is_integer : Sp) (s_law_same_items : Sp) (s_law_same : Sp) : TS := sSeq (sIf (tV (eOp rIs (eVar 1) (eC .non))) (sRet (eOp rIs (eVar 0) (eC .non))) (sNext)) (sSeq (sIf (tTru (eBlt bIsi (aCons (eVar 1) (aCons (eC (.ty "bool")) (aNil))))) (sRet (eAnd (eBlt bIsi (aCons (eVar 0) (aCons (eC (.ty "bool")) (aNil)))) (eOp rEq (eVar 0) (eVar 1)))) (sNext)) (sSeq (sIf (tTru (eBlt bIsi (aCons (eVar 1) (aCons (eC (.ty "int")) (aNil))))) (sRet (eAnd (eCall s_law_is_integer (aCons (eVar 0) (aNil))) (eOp rEq (eVar 0) (eVar 1)))) (sNext)) (sSeq (sIf (tTru (eBlt bIsi (aCons (eVar 1) (aCons (eC (.ty "str")) (aNil))))) (sRet (eAnd (eBlt bIsi (aCons (eVar 0) (aCons (eC (.ty "str")) (aNil)))) (eOp rEq (eVar 0) (eVar 1)))) (sNext)) (sSeq (sIf (tTru (eBlt bIsi (aCons (eVar 1) (aCons (eC (.ty "tuple")) (aNil))))) (sRet (eAnd (eBlt bIsi (aCons (eVar 0) (aCons (eC (.ty "tuple")) (aNil)))) (eCall s_law_same_items (aCons (eVar 0) (aCons (eVar 1) (aNil)))))) (sNext)) (sSeq (sIf (tTru (eBlt bIsi (aCons (eVar 1) (aCons (eC (.ty "list")) (aNil))))) (sRet (eAnd (eBlt bIsi (aCons (eVar 0) (aCons (eC (.ty "list")) (aNil)))) (eCall s_law_same_items (aCons (eVar 0) (aCons (eVar 1) (aNil)))))) (sNext)) (sSeq (sIf (tOr (tNot (tTru (eBlt bIsi (aCons (eVar 0) (aCons (eC (.ty "dict")) (aNil)))))) (tV (eOp rNe (eBlt bLen (aCons (eVar 0) (aNil))) (eBlt bLen (aCons (eVar 1) (aNil)))))) (sRet (eC (.bl false))) (sNext)) (sSeq (sFor (iVal (eVar 1)) (gName 2) (rd_law_same_b0 s_law_same)) (sSeq (sFor (iVal (eVar 0)) (gName 2) (rd_law_same_b1)) (sRet (eC (.bl true)))))))))))
/-- _law_row -/
def rd_law_row (s_law_take : Sp) : TS := sSeq (sSet 1 (eOp rAt (eLst (aCs [(.int 0), (.int 1), (.int 9), (.int 10), (.int 4294967295)])) (eCall s_law_take (aCons (eVar 0) (aCons (eC (.int 5)) (aNil)))))) (sSeq (sSet 2 (eOp rAt (eLst (aCs [(.str [97]), (.str [66, 57, 95]), (.str [120, 49])])) (eCall s_law_take (aCons (eVar 0) (aCons (eC (.int 3)) (aNil)))))) (sSeq (sSet 3 (eLst (aCons (eTup (aCons (eC (.str [112, 117, 115, 104])) (aCons (eVar 1) (aNil)))) (aCons (eTup (aCons (eC (.str [112, 117, 115, 104])) (aCons (eOp rEq (eCall s_law_take (aCons (eVar 0) (aCons (eC (.int 2)) (aNil)))) (eC (.int 0))) (aNil)))) (aCons (eTup (aCons (eC (.str [108, 111, 97, 100])) (aCons (eVar 1) (aNil)))) (aCons (eTup (aCons (eC (.str [115, 116, 111, 114, 101])) (aCons (eVar 1) (aNil)))) (aCons (eTup (aCons (eC (.str [115, 105, 103, 110])) (aCons (eOp rAt (eLst (aCs [(.str [43]), (.str [45]), (.str [42]), (.str [47]), (.str [61, 61]), (.str [60])])) (eCall s_law_take (aCons (eVar 0) (aCons (eC (.int 6)) (aNil))))) (aNil)))) (aCons (eTup (aCons (eC (.str [110, 111, 116])) (aNil))) (aCons (eTup (aCons (eC (.str [109, 105, 110, 117, 115])) (aNil))) (aCons (eTup (aCons (eC (.str [106, 117, 109, 112])) (aCons (eVar 1) (aNil)))) (aCons (eTup (aCons (eC (.str [117, 110, 108, 101, 115, 115])) (aCons (eVar 1) (aNil)))) (aCons (eTup (aCons (eC (.str [109, 97, 107, 101])) (aCons (eVar 2) (aCons (eC (.str [68])) (aCons (eVar 1) (aNil)))))) (aCons (eTup (aCons (eC (.str [102, 105, 101, 108, 100])) (aCons (eVar 2) (aNil)))) (aCons (eTup (aCons (eC (.str [99, 97, 108, 108])) (aCons (eVar 2) (aCons (eVar 1) (aCons (eC (.int 2)) (aNil)))))) (aCons (eTup (aCons (eC (.str [109, 101, 116, 104, 111, 100])) (aCons (eVar 2) (aCons (eC (.int 0)) (aCons (eVar 1) (aNil)))))) (aNil)))))))))))))))) (sRet (eOp rAt (eVar 3) (eCall s_law_take (aCons (eVar 0) (aCons (eC (.int 13)) (aNil))))))))
/-- _law_is_refused -/
def rd_law_is_refused (C_InvalidCode : Nat) (s_parse_code : Sp) : TS := sSeq (sTry C_InvalidCode (sDrop (eCall s_parse_code (aCons (eVar 0) (aNil)))) (sRet (eC (.bl true)))) (sRet (eC (.bl false)))
def rd_law_b0 (s_law_take : Sp) (s_law_is_refused : Sp) : TS := sIf (tNot (tTru (eCall s_law_is_refused (aCons (eOp rAt (eVar 6) (eCall s_law_take (aCons (eVar 1) (aCons (eC (.int 25)) (aNil))))) (aNil))))) (sRet (eC (.bl false))) (sNext)
/-- law -/
def rd_law (s_law_tape : Sp) (s_law_take : Sp) (s_law_row : Sp) (s_format_code : Sp) (s_law_same : Sp) (s_parse_code : Sp) (s_law_is_refused : Sp) : TS := sSeq (sSet 1 (eCall s_law_tape (aCons (eVar 0) (aNil)))) (sSeq (sSet 2 (eTup (aCons (eCall s_law_take (aCons (eVar 1) (aCons (eC (.int 12)) (aNil)))) (aCons (eBlt bTuple (aCons (eLc (iRng1 (aCons (eOp rAdd (eC (.int 1)) (eCall s_law_take (aCons (eVar 1) (aCons (eC (.int 10)) (aNil))))) (aNil))) (gName 7) (tYes) (eCall s_law_row (aCons (eVar 1) (aNil))) [7]) (aNil))) (aNil))))) (sSeq (sSet 3 (eOp rAdd (eLst (aCons (eOp rAdd (eC (.str [99, 111, 100, 101, 32])) (eBlt bStr (aCons (eOp rAt (eVar 2) (eC (.int 0))) (aNil)))) (aNil))) (eLc (iVal (eOp rAt (eVar 2) (eC (.int 1)))) (gName 8) (tYes) (eBm "str" mJoin (eC (.str [32])) (aCons (eLc (iVal (eVar 8)) (gName 10) (tYes) (eBlt bStr (aCons (eVar 10) (aNil))) [10]) (aNil))) [8]))) (sSeq (sSet 4 (eBm "str" mJoin (eC (.str [])) (aCons (eLc (iVal (eVar 3)) (gName 9) (tYes) (eOp rAdd (eVar 9) (eC (.str [10]))) [9]) (aNil)))) (sSeq (sIf (tOr (tV (eOp rNe (eCall s_format_code (aCons (eVar 2) (aNil))) (eVar 4))) (tNot (tTru (eCall s_law_same (aCons (eCall s_parse_code (aCons (eVar 4) (aNil))) (aCons (eVar 2) (aNil))))))) (sRet (eC (.bl false))) (sNext)) (sSeq (sSet 5 (eCall s_law_take (aCons (eVar 1) (aCons (eBlt bLen (aCons (eVar 3) (aNil))) (aNil))))) (sSeq (sSet 6 (eLst (aCons (eSl (eVar 4) (oNo) (oPart (eUn rNeg (eC (.int 1))))) (aCons (eOp rAdd (eVar 4) (eC (.str [10]))) (aCons (eOp rAdd (eC (.str [120])) (eVar 4)) (aCons (eOp rAdd (eVar 4) (eC (.str [112, 117, 115, 104, 10]))) (aCons (eOp rAdd (eVar 4) (eC (.str [112, 117, 115, 104, 32, 48, 49, 10]))) (aCons (eOp rAdd (eVar 4) (eC (.str [112, 117, 115, 104, 32, 45, 49, 10]))) (aCons (eOp rAdd (eVar 4) (eC (.str [112, 117, 115, 104, 32, 116, 114, 117, 101, 10]))) (aCons (eOp rAdd (eVar 4) (eC (.str [115, 105, 103, 110, 32, 97, 110, 100, 10]))) (aCons (eOp rAdd (eVar 4) (eC (.str [112, 117, 115, 104, 32, 52, 50, 57, 52, 57, 54, 55, 50, 57, 54, 10]))) (aCons (eOp rAdd (eVar 4) (eC (.str [110, 111, 116, 32, 49, 10]))) (aCons (eOp rAdd (eVar 4) (eC (.str [109, 97, 107, 101, 32, 97, 32, 68, 10]))) (aCons (eOp rAdd (eVar 4) (eC (.str [109, 97, 107, 101, 32, 97, 32, 105, 102, 32, 49, 10]))) (aCons (eOp rAdd (eVar 4) (eC (.str [99, 97, 108, 108, 32, 49, 32, 49, 32, 49, 10]))) (aCons (eOp rAdd (eVar 4) (eC (.str [112, 111, 112, 10]))) (aCons (eOp rAdd (eVar 4) (eC (.str [108, 111, 97, 100, 32, 49, 32, 10]))) (aCons (eOp rAdd (eVar 4) (eC (.str [32, 108, 111, 97, 100, 32, 49, 10]))) (aCons (eOp rAdd (eVar 4) (eC (.str [108, 111, 97, 100, 32, 32, 49, 10]))) (aCons (eC (.str [99, 111, 100, 101, 32, 120, 10, 110, 111, 116, 10])) (aCons (eC (.str [99, 111, 100, 101, 32, 49, 10])) (aCons (eC (.str [99, 111, 100, 101, 10, 110, 111, 116, 10])) (aCons (eC (.str [])) (aCons (eC (.str [99, 111, 100, 101, 32, 49])) (aCons (eIf (tV (eOp rGt (eVar 5) (eC (.int 0)))) (eOp rAdd (eOp rAdd (eOp rAt (eVar 3) (eVar 5)) (eC (.str [10]))) (eVar 4)) (eOp rAdd (eC (.str [110, 111, 116, 10])) (eVar 4))) (aCons (eOp rAdd (eVar 4) (eC (.str [102, 105, 101, 108, 100, 32, 49, 97, 10]))) (aCons (eOp rAdd (eVar 4) (eC (.str [106, 117, 109, 112, 32, 52, 50, 57, 52, 57, 54, 55, 50, 57, 54, 10]))) (aNil)))))))))))))))))))))))))))) (sSeq (sFor (iRng1 (aCons (eC (.int 4)) (aNil))) (gName 7) (rd_law_b0 s_law_take s_law_is_refused)) (sRet (eC (.bl true))))))))))
end L3.Lw

end
section
set_option autoImplicit false
namespace L3.Lw
open L3
/-! ### the law's tape -/
def tapeD (c : Nat) (at' left seed salt : Int) : List (W × W) := [(.str [99, 101, 108, 108, 115], .ref c), (.str [97, 116], .int at'), (.str [108, 101, 102, 116], .int left), (.str [115, 101, 101, 100], .int seed), (.str [115, 97, 108, 116], .int salt)]
/-- a tape stands at t, its cells at c -/
structure Tape (G : Gh) (t c : Nat) : Prop where
  ex : ∃ (cells : List Int) (at' left seed salt : Int), G t = some (.dct (tapeD c at' left seed salt)) ∧ G c = some (.lst (cells.map W.int)) ∧ (∀ x ∈ cells, 0 ≤ x) ∧ 0 ≤ at' ∧ 0 ≤ left ∧ 0 ≤ seed ∧ seed < 2147483647 ∧ 0 ≤ salt
theorem Tape.ne {G : Gh} {t c : Nat} (T : Tape G t c) : c ≠ t := by
  obtain ⟨_, _, _, _, _, e1, e2, _⟩ := T.ex
  rintro rfl
  rw [e1] at e2; cases e2
theorem Tape.hasT {G : Gh} {t c : Nat} (T : Tape G t c) : ∃ o, G t = some o := let ⟨_, _, _, _, _, e1, _⟩ := T.ex; ⟨_, e1⟩
theorem Tape.hasC {G : Gh} {t c : Nat} (T : Tape G t c) : ∃ o, G c = some o := let ⟨_, _, _, _, _, _, e1, _⟩ := T.ex; ⟨_, e1⟩
theorem Tape.free {G : Gh} {t c p : Nat} (T : Tape G t c) (h : G p = none) : p ≠ t ∧ p ≠ c := by
  obtain ⟨_, e⟩ := T.hasT
  obtain ⟨_, e'⟩ := T.hasC
  exact ⟨ne_free e h, ne_free e' h⟩
theorem Tape.upd {G : Gh} {t c p : Nat} {o : O} (T : Tape G t c) (h1 : p ≠ t) (h2 : p ≠ c) : Tape (up G p o) t c := by
  obtain ⟨cells, at', left, seed, salt, e1, e2, r⟩ := T.ex
  exact ⟨cells, at', left, seed, salt, (up_ne h1.symm).trans e1, (up_ne h2.symm).trans e2, r⟩
theorem Tape.new {G : Gh} {t c p : Nat} {o : O} (T : Tape G t c) (h : G p = none) : Tape (up G p o) t c := T.upd (T.free h).1 (T.free h).2
theorem Tape.of {G G' : Gh} {t c : Nat} (T : Tape G t c) (h1 : G' t = G t) (h2 : G' c = G c) : Tape G' t c := by
  obtain ⟨cells, at', left, seed, salt, e1, e2, r⟩ := T.ex
  exact ⟨cells, at', left, seed, salt, h1.trans e1, h2.trans e2, r⟩
theorem Tape.le {G G' : Gh} {t c : Nat} (T : Tape G t c) (l : Le G G') : Tape G' t c := by
  obtain ⟨cells, at', left, seed, salt, e1, e2, r⟩ := T.ex
  exact ⟨cells, at', left, seed, salt, l _ _ e1, l _ _ e2, r⟩
/-- _law_take: some number below many; the tape has moved -/
def sp_take : Sp := fun ws G Q _ => match ws with
  | [.ref t, .int many] => ∃ c, Tape G t c ∧ 0 < many ∧ many < 1073741824 ∧ ∀ d o, 0 ≤ d → d < many → Tape (up G t o) t c → Q (.int d) (up G t o)
  | _ => False
theorem mono_take : Mono sp_take := by
  intro ws G Q Q' E E' hq he h
  unfold sp_take at h ⊢
  split at h
  · obtain ⟨c, a, b, d, k⟩ := h
    exact ⟨c, a, b, d, fun x o h0 h1 T => hq _ _ (k x o h0 h1 T)⟩
  · exact h.elim
theorem len_take (ws : List W) (G : Gh) (Q : QV) (E : XQ) (h : sp_take ws G Q E) : ws.length = 2 := by
  unfold sp_take at h
  split at h
  · rfl
  · exact h.elim
theorem at_ints {ns : List Int} {i : Int} (h0 : 0 ≤ i) (h1 : i < ns.length) : ∃ n, n ∈ ns ∧ at_ (ns.map W.int) i = some (.int n) := by
  have hl : i.toNat < ns.length := by omega
  refine ⟨ns[i.toNat], List.getElem_mem hl, ?_⟩
  unfold at_ ixn
  rw [if_pos h0, List.length_map, if_pos hl]
  simp [hl]
theorem vc_take (ws : List W) (G : Gh) (Q : QV) (E : XQ) (fg : Fgt Q E) (h : sp_take ws G Q E) : rd_law_take { nx := fun _ G' => Q .non G', rt := Q, ex := fun _ => E } (startF 4 ws) G := by
  unfold sp_take at h
  split at h
  · rename_i t many
    obtain ⟨c, ⟨cells, at', left, seed, salt, e1, e2, b1, b2, b3, b4, b5, b6⟩, m0, m1, q⟩ := h
    have ne : c ≠ t := by rintro rfl; rw [e1] at e2; cases e2
    have mk : ∀ at2 left2 salt2 : Int, 0 ≤ at2 → 0 ≤ left2 → 0 ≤ salt2 → Tape (up G t (.dct (tapeD c at2 left2 seed salt2))) t c := fun at2 left2 salt2 h1 h2 h3 =>
      ⟨cells, at2, left2, seed, salt2, up_same, (up_ne ne).trans e2, b1, h1, h2, b4, b5, h3⟩
    have fin : ∀ d at2 left2 salt2 : Int, 0 ≤ at2 → 0 ≤ left2 → 0 ≤ salt2 → 0 ≤ d → d < many → Q (.int d) (up G t (.dct (tapeD c at2 left2 seed salt2))) := fun d at2 left2 salt2 h1 h2 h3 h4 h5 => q d _ h4 h5 (mk _ _ _ h1 h2 h3)
    have md : ∀ x : Int, 0 ≤ x % many ∧ x % many < many := fun x => ⟨Int.emod_nonneg _ (by omega), Int.emod_lt_of_pos _ m0⟩
    have hm : ∀ x : Int, 0 ≤ x % 2147483647 ∧ x % 2147483647 < 2147483647 := fun x => ⟨Int.emod_nonneg _ (by omega), Int.emod_lt_of_pos _ (by omega)⟩
    have dv : ∀ x : Int, 0 ≤ x → 0 ≤ x / many := fun x hx => Int.ediv_nonneg hx (by omega)
    have mulr : ∀ i j : Int, 0 ≤ j → j < 4294967296 → mulOk i j := fun i j h0 h1 => .inr ⟨by omega, by omega⟩
    have mixed : ∀ at2 left2 : Int, 0 ≤ at2 → 0 ≤ left2 → mulOk seed 48271 ∧ mulOk (salt + 1) 69621 ∧
        mulOk ((seed * 48271 + (salt + 1) * 69621) % 2147483647) ((seed * 48271 + (salt + 1) * 69621) % 2147483647) ∧ mulOk (salt + 1) 40692 ∧ 0 < many ∧
        Q (.int (((seed * 48271 + (salt + 1) * 69621) % 2147483647 * ((seed * 48271 + (salt + 1) * 69621) % 2147483647) + (salt + 1) * 40692 + 12345) % 2147483399 % many)) (up G t (.dct (tapeD c at2 left2 seed (salt + 1)))) :=
      fun at2 left2 h1 h2 => ⟨mulr _ _ (by omega) (by omega), mulr _ _ (by omega) (by omega), mulr _ _ (hm _).1 (by have := (hm (seed * 48271 + (salt + 1) * 69621)).2; omega), mulr _ _ (by omega) (by omega), m0, fin _ _ _ _ h1 h2 (by omega) (md _).1 (md _).2⟩
    simp [rd_law_take, startF, e1, e2, tapeD, look, keq, putD, has]
    split
    · split
      · rename_i hl
        obtain ⟨n, hn, en⟩ := at_ints b2 hl
        have n0 := b1 n hn
        simp only [en]
        split
        · exact ⟨m0, m0, m1, fin _ _ _ _ (by omega) (dv _ n0) b6 (md _).1 (md _).2⟩
        · exact mixed _ _ (by omega) n0
      · split
        · exact ⟨m0, m1, fin _ _ _ _ b2 (dv _ b3) b6 (md _).1 (md _).2⟩
        · exact mixed _ _ b2 b3
    · split
      · exact ⟨m0, m1, fin _ _ _ _ b2 (dv _ b3) b6 (md _).1 (md _).2⟩
      · exact mixed _ _ b2 b3
  · exact h.elim
/-- _law_tape -/
def scriptW (G : Gh) (x : W) (ns : List Int) : Prop := x = .kl (ns.map W.int) ∨ ∃ a, x = .ref a ∧ G a = some (.rdl (ns.map W.int))
def sp_tape : Sp := fun ws G Q _ => match ws with
  | [x] => ∃ ns : List Int, (scriptW G x ns ∧ ns.length ≤ 63) ∧ ∀ G' t c, Le G G' → G t = none → Tape G' t c → Q (.ref t) G'
  | _ => False
theorem mono_tape : Mono sp_tape := by
  intro ws G Q Q' E E' hq he h
  unfold sp_tape at h ⊢
  split at h
  · obtain ⟨ns, a, k⟩ := h
    exact ⟨ns, a, fun G' t c l f T => hq _ _ (k G' t c l f T)⟩
  · exact h.elim
theorem len_tape (ws : List W) (G : Gh) (Q : QV) (E : XQ) (h : sp_tape ws G Q E) : ws.length = 1 := by
  unfold sp_tape at h
  split at h
  · rfl
  · exact h.elim
theorem vc_tape (ws : List W) (G : Gh) (Q : QV) (E : XQ) (fg : Fgt Q E) (h : sp_tape ws G Q E) : rd_law_tape { nx := fun _ G' => Q .non G', rt := Q, ex := fun _ => E } (startF 4 ws) G := by
  unfold sp_tape at h
  split at h
  · rename_i x
    obtain ⟨ns, ⟨e1, hl⟩, q⟩ := h
    -- the second loop
    have loop : ∀ (D : Nat) (cells : List Int) (G1 : Gh), G1 D = some (.lst (cells.map W.int)) → ∀ (Dn : Ends) (r : List Int) (seed : Int) (o : Option W), 0 ≤ seed → seed < 2147483647 →
        (∀ (seed' : Int) (o' : Option W), 0 ≤ seed' → seed' < 2147483647 → Dn.nx [some x, some (.ref D), some (.int seed'), o'] G1) →
        forL (items (.ref D)) (cells.map W.int) (gName 3) rd_law_tape_b0 Dn (r.map W.int) [some x, some (.ref D), some (.int seed), o] G1 := by
      intro D cells G1 eD Dn r
      induction r with
      | nil => intro seed o h0 h1 k; exact ⟨by simp [eD], k seed o h0 h1⟩
      | cons n r ih =>
        intro seed o h0 h1 k
        rw [List.map_cons, forL_cons]
        refine ⟨by simp [eD], ?_⟩
        simp only [rd_law_tape_b0, gName, sSet, eOp, eBlt, aCons, aNil, eVar, eC, rMul, rAdd, rMod, bInt, get_succ, get_zero, put_succ, put_zero]
        refine ⟨.inr ⟨by decide, by decide⟩, by decide, ?_⟩
        exact ih _ _ (Int.emod_nonneg _ (by decide)) (Int.emod_lt_of_pos _ (by decide)) k
    simp only [rd_law_tape, startF, sSeq, sSet, eLc, iVal, eVar, wipe_cons, wipe_nil, List.map_cons, List.map_nil, List.cons_append, List.nil_append, List.length_cons, List.length_nil, List.replicate]
    have eI : items x G = some (ns.map W.int) ∧ ∀ D acc, G D = none → items x (up G D (.lst acc)) = some (ns.map W.int) := by
      rcases e1 with rfl | ⟨a, rfl, e1⟩
      · exact ⟨rfl, fun D acc _ => rfl⟩
      · refine ⟨by simp only [items, e1], fun D acc hD => ?_⟩
        simp only [items, up_ne (ne_free' e1 hD), e1]
    simp only [get_zero, del_succ, del_zero]
    refine ⟨by rw [eI.1]; rfl, fun D hD => ?_⟩
    refine ⟨ns.map W.int, eI.2 D [] hD, ?_⟩
    refine lcL_map (G0 := G) (fun w => match w with | .int i => .int i.natAbs | w => w) (fun acc => eI.2 D acc hD) ?_ (ns.map W.int) [] (fun w hw => hw) (by simp; omega) ?_
    · intro w hw acc K hk
      obtain ⟨n, _, rfl⟩ := List.mem_map.mp hw
      simpa using hk
    · have ec : (ns.map W.int).map (fun w => match w with | .int i => W.int i.natAbs | w => w) = (ns.map fun n => (n.natAbs : Int)).map W.int := by
        rw [List.map_map, List.map_map]; rfl
      simp only [List.nil_append, ec, sFor, eC, put_zero, put_succ, iVal, eVar, get_zero, get_succ, items, up_same]
      refine ⟨rfl, _, rfl, ?_⟩
      refine loop D _ _ up_same _ _ 7 _ (by decide) (by decide) fun seed' o' h0 h1 => ?_
      simp [sRet, pairsD, mergeD, putD, has, look, keq]
      intro p hp
      have hpD : p ≠ D := (free_up hp).1
      refine q _ p D ?_ (free_up hp).2 ⟨ns.map fun n => (n.natAbs : Int), 0, 0, seed', 0, up_same, ?_, ?_, by decide, by decide, h0, h1, by decide⟩
      · exact (Le.up hD).trans (Le.up hp)
      · rw [up_ne hpD.symm, up_same, List.map_map]
      · intro x hx
        obtain ⟨n, _, rfl⟩ := List.mem_map.mp hx
        omega
  · exact h.elim

/-! ### the law's comparison -/
/-- the same data, to the depth n -/
def SameW (G : Gh) : Nat → W → W → Prop
  | 0, x, y => flatW x = true ∧ x = y
  | n + 1, x, y => (flatW x = true ∧ x = y) ∨ (∃ xs ys, x = .tup xs ∧ y = .tup ys ∧ xs.length = ys.length ∧ xs.length ≤ SZ ∧ ∀ (i : Nat) (a b : W), xs[i]? = some a → ys[i]? = some b → SameW G n a b) ∨
      (∃ p q xs ys, x = .ref p ∧ y = .ref q ∧ G p = some (.lst xs) ∧ G q = some (.lst ys) ∧ xs.length = ys.length ∧ xs.length ≤ SZ ∧ ∀ (i : Nat) (a b : W), xs[i]? = some a → ys[i]? = some b → SameW G n a b)
theorem SameW.flat {G : Gh} {n : Nat} {x : W} (h : flatW x = true) : SameW G n x x := by
  cases n with
  | zero => exact ⟨h, rfl⟩
  | succ n => exact .inl ⟨h, rfl⟩
theorem SameW.tup {G : Gh} {n : Nat} {xs : List W} (hz : xs.length ≤ SZ) (h : ∀ x ∈ xs, SameW G n x x) : SameW G (n + 1) (.tup xs) (.tup xs) := by
  refine .inr (.inl ⟨xs, xs, rfl, rfl, rfl, hz, fun i a b ha hb => ?_⟩)
  rw [ha] at hb
  cases hb
  exact h a (List.mem_of_getElem? ha)
theorem SameW.lst {G : Gh} {n : Nat} {p q : Nat} {xs : List W} (hp : G p = some (.lst xs)) (hq : G q = some (.lst xs)) (hz : xs.length ≤ SZ) (h : ∀ x ∈ xs, SameW G n x x) : SameW G (n + 1) (.ref p) (.ref q) := by
  refine .inr (.inr ⟨p, q, xs, xs, rfl, rfl, hp, hq, rfl, hz, fun i a b ha hb => ?_⟩)
  rw [ha] at hb
  cases hb
  exact h a (List.mem_of_getElem? ha)
/-- _law_is_integer -/
def sp_isint : Sp := fun ws G Q _ => match ws with
  | [.int i] => Q (.bl true) G
  | _ => False
theorem mono_isint : Mono sp_isint := by
  intro ws G Q Q' E E' hq he h
  unfold sp_isint at h ⊢
  split at h
  · exact hq _ _ h
  · exact h.elim
theorem len_isint (ws : List W) (G : Gh) (Q : QV) (E : XQ) (h : sp_isint ws G Q E) : ws.length = 1 := by
  unfold sp_isint at h
  split at h
  · rfl
  · exact h.elim
theorem vc_isint (ws : List W) (G : Gh) (Q : QV) (E : XQ) (fg : Fgt Q E) (h : sp_isint ws G Q E) : rd_law_is_integer { nx := fun _ G' => Q .non G', rt := Q, ex := fun _ => E } (startF 1 ws) G := by
  unfold sp_isint at h
  split at h
  · simpa [rd_law_is_integer, startF, tyN] using h
  · exact h.elim
/-- _law_same, to the depth n -/
def sp_same (n : Nat) : Sp := fun ws G Q _ => match ws with
  | [x, y] => SameW G n x y ∧ Q (.bl true) G
  | _ => False
theorem mono_same (n : Nat) : Mono (sp_same n) := by
  intro ws G Q Q' E E' hq he h
  unfold sp_same at h ⊢
  split at h
  · exact ⟨h.1, hq _ _ h.2⟩
  · exact h.elim
theorem len_same (n : Nat) (ws : List W) (G : Gh) (Q : QV) (E : XQ) (h : sp_same n ws G Q E) : ws.length = 2 := by
  unfold sp_same at h
  split at h
  · rfl
  · exact h.elim
/-- the items of a tuple or a list -/
def seqW (G : Gh) : W → Option (List W)
  | .tup xs => some xs
  | .ref p => match G p with
    | some (.lst xs) => some xs
    | _ => none
  | _ => none
def sp_items (n : Nat) : Sp := fun ws G Q _ => match ws with
  | [x, y] => ∃ xs ys, seqW G x = some xs ∧ seqW G y = some ys ∧ xs.length = ys.length ∧ xs.length ≤ SZ ∧ (∀ (i : Nat) (a b : W), xs[i]? = some a → ys[i]? = some b → SameW G n a b) ∧ Q (.bl true) G
  | _ => False
theorem mono_items (n : Nat) : Mono (sp_items n) := by
  intro ws G Q Q' E E' hq he h
  unfold sp_items at h ⊢
  split at h
  · obtain ⟨xs, ys, a, b, c, d, e, k⟩ := h
    exact ⟨xs, ys, a, b, c, d, e, hq _ _ k⟩
  · exact h.elim
theorem len_items (n : Nat) (ws : List W) (G : Gh) (Q : QV) (E : XQ) (h : sp_items n ws G Q E) : ws.length = 2 := by
  unfold sp_items at h
  split at h
  · rfl
  · exact h.elim
theorem seq_ref {G : Gh} {p : Nat} {xs : List W} (h : seqW G (.ref p) = some xs) : G p = some (.lst xs) := by
  unfold seqW at h
  dsimp only at h
  cases e : G p with
  | none => rw [e] at h; cases h
  | some o =>
    cases o with
    | lst ys => rw [e] at h; cases h; rfl
    | _ => rw [e] at h; cases h
theorem len_seq {G : Gh} {x : W} {xs : List W} {Q : QV} (h : seqW G x = some xs) (q : Q (.int xs.length) G) : bLen [x] G Q := by
  cases x with
  | tup ws => cases h; exact q
  | ref p => simpa [seq_ref h] using q
  | _ => cases h
theorem ix_seq {G : Gh} {x : W} {xs : List W} {i : Nat} {w : W} {Q : QV} (h : seqW G x = some xs) (e : xs[i]? = some w) (q : Q w G) : rIx x (.int (i : Int)) G Q := by
  have ea := at_nat e
  cases x with
  | tup ws => cases h; simpa [ea] using q
  | ref p => simpa [seq_ref h, ea] using q
  | _ => cases h
theorem vc_items (n : Nat) (ws : List W) (G : Gh) (Q : QV) (E : XQ) (fg : Fgt Q E) (h : sp_items n ws G Q E) : rd_law_same_items (sp_same n) { nx := fun _ G' => Q .non G', rt := Q, ex := fun _ => E } (startF 3 ws) G := by
  unfold sp_items at h
  split at h
  · rename_i x y
    obtain ⟨xs, ys, e1, e2, el, hz, hs, k⟩ := h
    simp only [rd_law_same_items, startF, sSeq, sIf, tV, eOp, eBlt, aCons, aNil, eVar, List.map_cons, List.map_nil, List.cons_append, List.nil_append, List.length_cons, List.length_nil, List.replicate, get_zero, get_succ]
    refine len_seq e1 (len_seq e2 ?_)
    simp only [rNe, eqA, el, decide_true, Bool.not_true, Bool.false_eq_true, if_false, sNext, sSeq, sFor, iRng1, aCons, aNil, eBlt, eVar, get_zero, get_succ]
    refine len_seq e2 ?_
    refine ⟨rngOk_nat (by omega), _, rfl, ?_⟩
    refine forL_ind (fun r γ G' => G' = G ∧ (∃ o, γ = [some x, some y, o]) ∧ ∀ w ∈ r, ∃ i : Nat, i < ys.length ∧ w = .int i) (fun r γ G' _ => rfl) ?_ ?_ _ _ _ ⟨rfl, ⟨none, rfl⟩, fun w hw => ?_⟩
    · rintro γ G' ⟨rfl, ⟨o, rfl⟩, _⟩
      simpa using k
    · rintro w r γ G' ⟨rfl, ⟨o, rfl⟩, hm⟩ F hF
      obtain ⟨i, hi, rfl⟩ := hm w (by simp)
      simp only [gName, rd_law_same_items_b0, sIf, tNot, tTru, eCall, aCons, aNil, eOp, eVar, get_zero, get_succ, put_zero, put_succ]
      refine ix_seq e1 (List.getElem?_eq_getElem (by omega)) (ix_seq e2 (List.getElem?_eq_getElem hi) ⟨hs i _ _ (List.getElem?_eq_getElem (by omega)) (List.getElem?_eq_getElem hi), ?_⟩)
      simp only [truth, Bool.not_true, Bool.false_eq_true, if_false, sNext]
      exact hF _ _ ⟨rfl, ⟨_, rfl⟩, fun w hw => hm w (by simp [hw])⟩
    · obtain ⟨i, hi, rfl⟩ := mem_rangeW hw
      exact ⟨i, by simpa using hi, by simp⟩
  · exact h.elim
theorem vc_same0 (ws : List W) (G : Gh) (Q : QV) (E : XQ) (fg : Fgt Q E) (s : Sp) (h : sp_same 0 ws G Q E) (t : Sp) : rd_law_same sp_isint s t { nx := fun _ G' => Q .non G', rt := Q, ex := fun _ => E } (startF 3 ws) G := by
  unfold sp_same at h
  split at h
  · rename_i x y
    obtain ⟨⟨f, rfl⟩, k⟩ := h
    cases x with
    | non => simpa [rd_law_same, startF, tyN] using k
    | bl b => simpa [rd_law_same, startF, tyN, weq] using k
    | int i => simpa [rd_law_same, startF, tyN, sp_isint] using k
    | str l => simpa [rd_law_same, startF, tyN] using k
    | _ => cases f
  · exact h.elim
theorem vc_same (n : Nat) (ws : List W) (G : Gh) (Q : QV) (E : XQ) (fg : Fgt Q E) (h : sp_same (n + 1) ws G Q E) (t : Sp) :
    rd_law_same sp_isint (sp_items n) t { nx := fun _ G' => Q .non G', rt := Q, ex := fun _ => E } (startF 3 ws) G := by
  unfold sp_same at h
  split at h
  · rename_i x y
    obtain ⟨hs, k⟩ := h
    rcases hs with ⟨f, rfl⟩ | ⟨xs, ys, rfl, rfl, el, hz, hi⟩ | ⟨p, q, xs, ys, rfl, rfl, e1, e2, el, hz, hi⟩
    · exact vc_same0 [x, x] G Q E fg _ (show SameW G 0 x x ∧ _ from ⟨⟨f, rfl⟩, k⟩) t
    · simp [rd_law_same, startF, tyN, sp_items]
      exact ⟨xs, rfl, ys, rfl, el, hz, hi, k⟩
    · have s1 : seqW G (.ref p) = some xs := by simp [seqW, e1]
      have s2 : seqW G (.ref q) = some ys := by simp [seqW, e2]
      simp [rd_law_same, startF, tyN, sp_items, e1, e2]
      exact ⟨xs, s1, ys, s2, el, hz, hi, k⟩
  · exact h.elim

/-! ### texts that the law draws -/
/-- a sign that may stand in a text -/
def chb (c : Nat) : Bool := c == 10 || (decide (32 ≤ c) && decide (c < 127) && !(c == 37))
def OkT (l : List Nat) : Prop := ∀ c ∈ l, chb c = true
theorem OkT.nil : OkT [] := fun _ h => nomatch h
theorem OkT.append {l m : List Nat} (a : OkT l) (b : OkT m) : OkT (l ++ m) := fun c h => (List.mem_append.mp h).elim (a c) (b c)
theorem OkT.lt {l : List Nat} (h : OkT l) {c : Nat} (hc : c ∈ l) : c < 128 := by
  have := h c hc
  unfold chb at this
  simp at this
  omega
theorem okT_all {l : List Nat} (h : l.all chb = true) : OkT l := fun c hc => List.all_eq_true.mp h c hc
theorem joinN_flat : ∀ ps : List (List Nat), joinN [] ps = ps.flatten
  | [] => rfl
  | [p] => by simp [joinN]
  | p :: q :: r => by rw [joinN, joinN_flat (q :: r)]; simp
theorem OkT.flat {ps : List (List Nat)} (h : ∀ p ∈ ps, OkT p) : OkT ps.flatten := fun c hc => by
  obtain ⟨p, hp, hc⟩ := List.mem_flatten.mp hc
  exact h p hp c hc
theorem flat_len {ps : List (List Nat)} {n : Nat} (h : ∀ p ∈ ps, p.length ≤ n) : ps.flatten.length ≤ n * ps.length := by
  induction ps with
  | nil => simp
  | cons p ps ih =>
    rw [List.flatten_cons, List.length_append, List.length_cons, Nat.mul_add]
    have := h p (by simp)
    have := ih fun q hq => h q (by simp [hq])
    omega
theorem sum_len {ps : List (List Nat)} {n : Nat} (h : ∀ p ∈ ps, p.length ≤ n) : (ps.map (·.length)).sum ≤ n * ps.length := by
  rw [← List.length_flatten]
  exact flat_len h
/-- what stood at the beginning, but for the tape, stands -/
def KeepBut (t : Nat) (G G' : Gh) : Prop := ∀ b o, b ≠ t → G b = some o → G' b = some o
theorem KeepBut.refl {t : Nat} {G : Gh} : KeepBut t G G := fun _ _ _ h => h
theorem KeepBut.trans {t : Nat} {G G1 G2 : Gh} (a : KeepBut t G G1) (b : KeepBut t G1 G2) : KeepBut t G G2 := fun c o n h => b c o n (a c o n h)
theorem KeepBut.tape {t : Nat} {G : Gh} {o : O} : KeepBut t G (up G t o) := fun b u n h => (up_ne n).trans h
theorem KeepBut.new {t p : Nat} {G : Gh} {o : O} (h : G p = none) : KeepBut t G (up G p o) := fun b u _ e => Le.up h b u e
/-- an object that was not there at the beginning is written -/
theorem KeepBut.upd {t p : Nat} {G G' : Gh} {o : O} (a : KeepBut t G G') (h : G p = none) : KeepBut t G (up G' p o) := fun b u n e => by
  rw [up_ne (ne_free' e h)]
  exact a b u n e
theorem KeepBut.le {t : Nat} {G G1 G2 : Gh} (a : KeepBut t G G1) (l : Le G1 G2) : KeepBut t G G2 := fun b u n e => l b u (a b u n e)
theorem tape_fin {G G' : Gh} {t c : Nat} {Q : QV} {E : XQ} {w : W} (T : Tape G t c) (T' : Tape G' t c) (kp : KeepBut t G G') (fg : Fgt Q E) (k : ∀ o, Tape (up G t o) t c → Q w (up G t o)) : Q w G' := by
  obtain ⟨o, e⟩ := T'.hasT
  obtain ⟨oc, ec⟩ := T.hasC
  have l : Le (up G t o) G' := fun b u h => by
    by_cases hb : b = t
    · subst hb; rw [up_same] at h; cases h; exact e
    · rw [up_ne hb] at h; exact kp b u hb h
  refine fg.rt w _ _ l (k o (T'.of (up_same.trans e.symm) ?_))
  rw [up_ne T.ne, kp c oc T.ne ec]
  exact ec
/-- a def that draws: what it hands back bears P -/
def sp_draw (P : W → Prop) : Sp := fun ws G Q _ => match ws with
  | [.ref t] => ∃ c, Tape G t c ∧ ∀ w o, P w → Tape (up G t o) t c → Q w (up G t o)
  | _ => False
theorem mono_draw (P : W → Prop) : Mono (sp_draw P) := by
  intro ws G Q Q' E E' hq he h
  unfold sp_draw at h ⊢
  split at h
  · obtain ⟨c, T, k⟩ := h
    exact ⟨c, T, fun w o p T => hq _ _ (k w o p T)⟩
  · exact h.elim
theorem len_draw (P : W → Prop) (ws : List W) (G : Gh) (Q : QV) (E : XQ) (h : sp_draw P ws G Q E) : ws.length = 1 := by
  unfold sp_draw at h
  split at h
  · rfl
  · exact h.elim
/-- .. with a number -/
def sp_draw1 (ok : Int → Prop) (P : Int → W → Prop) : Sp := fun ws G Q _ => match ws with
  | [.ref t, .int n] => ∃ c, Tape G t c ∧ ok n ∧ ∀ w o, P n w → Tape (up G t o) t c → Q w (up G t o)
  | _ => False
theorem mono_draw1 (ok : Int → Prop) (P : Int → W → Prop) : Mono (sp_draw1 ok P) := by
  intro ws G Q Q' E E' hq he h
  unfold sp_draw1 at h ⊢
  split at h
  · obtain ⟨c, T, a, k⟩ := h
    exact ⟨c, T, a, fun w o p T => hq _ _ (k w o p T)⟩
  · exact h.elim
theorem len_draw1 (ok : Int → Prop) (P : Int → W → Prop) (ws : List W) (G : Gh) (Q : QV) (E : XQ) (h : sp_draw1 ok P ws G Q E) : ws.length = 2 := by
  unfold sp_draw1 at h
  split at h
  · rfl
  · exact h.elim

/-- a law: whatever the script, it answers True -/
def sp_law : Sp := fun ws G Q _ => match ws with
  | [x] => ∃ ns : List Int, (scriptW G x ns ∧ ns.length ≤ 63) ∧ ∀ G', Q (.bl true) G'
  | _ => False
theorem mono_law : Mono sp_law := by
  intro ws G Q Q' E E' hq he h
  unfold sp_law at h ⊢
  split at h
  · obtain ⟨ns, a, k⟩ := h
    exact ⟨ns, a, fun G' => hq _ _ (k G')⟩
  · exact h.elim
theorem len_law (ws : List W) (G : Gh) (Q : QV) (E : XQ) (h : sp_law ws G Q E) : ws.length = 1 := by
  unfold sp_law at h
  split at h
  · rfl
  · exact h.elim

/-! ### tokens -/
def isLetB (c : Nat) : Bool := (decide (97 ≤ c) && decide (c ≤ 122)) || (decide (65 ≤ c) && decide (c ≤ 90))
def isDigB (c : Nat) : Bool := decide (48 ≤ c) && decide (c ≤ 57)
def isNamB (c : Nat) : Bool := isLetB c || isDigB c || decide (c = 95)
def lettersL : List Nat := [97, 98, 99, 100, 101, 102, 103, 104, 105, 106, 107, 108, 109, 110, 111, 112, 113, 114, 115, 116, 117, 118, 119, 120, 121, 122, 65, 66, 67, 68, 69, 70, 71, 72, 73, 74, 75, 76, 77, 78, 79, 80, 81, 82, 83, 84, 85, 86, 87, 88, 89, 90]
def digitsL : List Nat := [48, 49, 50, 51, 52, 53, 54, 55, 56, 57]
def signsL : List Nat := [40, 41, 91, 93, 44, 58, 46, 61, 60, 43, 45, 42, 47]
theorem below_all (l : List Nat) (p : Nat → Bool) (h : ∀ c, c < 128 → decide (c ∈ l) = p c) (h1 : ∀ c ∈ l, c < 128) (h2 : ∀ c, 128 ≤ c → p c = false) (c : Nat) : decide (c ∈ l) = p c := by
  by_cases hc : c < 128
  · exact h c hc
  · rw [h2 c (by omega)]
    exact decide_eq_false fun z => hc (h1 c z)
theorem in_letters (c : Nat) : decide (c ∈ lettersL) = isLetB c := below_all _ _ (by decide) (by decide) (fun c h => by unfold isLetB; simp; omega) c
theorem in_digits (c : Nat) : decide (c ∈ digitsL) = isDigB c := below_all _ _ (by decide) (by decide) (fun c h => by unfold isDigB; simp; omega) c
theorem in_names (c : Nat) : decide (c ∈ lettersL ++ digitsL ++ [95]) = isNamB c := below_all _ _ (by decide) (by decide) (fun c h => by unfold isNamB isLetB isDigB; simp; omega) c
theorem lt_one (a b : Nat) : decide ([a] < [b]) = decide (a < b) := by
  by_cases h : a < b
  · rw [decide_eq_true h, decide_eq_true]
    exact List.Lex.rel h
  · rw [decide_eq_false h, decide_eq_false]
    intro z
    cases z with
    | rel z => exact h z
    | cons z => cases z
/-- where the run ends that begins at i -/
def runE (p : Nat → Bool) (s : List Nat) (i : Nat) : Nat := i + ((s.drop i).takeWhile p).length
theorem runE_stop {p : Nat → Bool} {s : List Nat} {i : Nat} (h : ∀ c, s[i]? = some c → p c = false) : runE p s i = i := by
  unfold runE
  cases e : s.drop i with
  | nil => rfl
  | cons c r =>
    have hc : s[i]? = some c := by
      have := congrArg (fun l => l[0]?) e
      simpa using this
    rw [List.takeWhile_cons, if_neg (by rw [h c hc]; decide)]; rfl
theorem runE_step {p : Nat → Bool} {s : List Nat} {i c : Nat} (h : s[i]? = some c) (hp : p c = true) : runE p s i = runE p s (i + 1) := by
  obtain ⟨hi, rfl⟩ := List.getElem?_eq_some_iff.mp h
  unfold runE
  rw [List.drop_eq_getElem_cons hi, List.takeWhile_cons, if_pos hp, List.length_cons]
  omega
theorem runE_le {p : Nat → Bool} {s : List Nat} {i : Nat} (h : i ≤ s.length) : i ≤ runE p s i ∧ runE p s i ≤ s.length := by
  unfold runE
  have h1 : ((s.drop i).takeWhile p).length ≤ (s.drop i).length := List.Sublist.length_le (List.takeWhile_sublist p)
  rw [List.length_drop] at h1
  omega
def wordsL : List (List Nat) := [[105, 109, 112, 111, 114, 116], [100, 97, 116, 97], [116, 114, 97, 105, 116], [119, 105, 116, 104], [105, 109, 112, 108], [102, 111, 114], [100, 101, 102], [108, 101, 116], [105, 110], [105, 102], [116, 104, 101, 110], [101, 108, 115, 101], [108, 111, 111, 112], [116, 105, 109, 101, 115], [100, 111], [110, 111, 116], [97, 110, 100], [111, 114], [84, 114, 117, 101], [70, 97, 108, 115, 101]]
def kWord : List Nat := [119, 111, 114, 100]
def kName : List Nat := [110, 97, 109, 101]
def kNumber : List Nat := [110, 117, 109, 98, 101, 114]
def kSign : List Nat := [115, 105, 103, 110]
def kWrong : List Nat := [119, 114, 111, 110, 103]
def isWord (l : List Nat) : Bool := (wordsL.map W.str).any fun w => weq w (.str l)
/-- the token that begins at i with the sign c: its sort and its end -/
def tokE (s : List Nat) (i c : Nat) : List Nat × Nat :=
  if isLetB c = true then (if isWord (cut s (some (i : Int)) (some (runE isNamB s i : Nat))) = true then (kWord, runE isNamB s i) else (kName, runE isNamB s i))
  else if isDigB c = true then (kNumber, runE isDigB s i)
  else if cut s (some (i : Int)) (some ((i : Int) + 2)) = [61, 61] then (kSign, i + 2)
  else if c ∈ signsL then (kSign, i + 1) else (kWrong, i + 1)
def tokW (s : List Nat) (i c : Nat) : W := .tup [.str (tokE s i c).1, .int (i : Nat), .int ((tokE s i c).2 : Nat)]
theorem tok_gt {s : List Nat} {i c : Nat} (h : s[i]? = some c) : i < (tokE s i c).2 := by
  have hi := (List.getElem?_eq_some_iff.mp h).1
  unfold tokE
  split
  · rename_i hl
    have e := runE_step (p := isNamB) h (by unfold isNamB; rw [hl]; rfl)
    have := (runE_le (p := isNamB) (s := s) (i := i + 1) (by omega)).1
    split <;> (simp only; omega)
  · split
    · rename_i hd
      have e := runE_step (p := isDigB) h hd
      have := (runE_le (p := isDigB) (s := s) (i := i + 1) (by omega)).1
      simp only; omega
    · split
      · simp only; omega
      · split <;> (simp only; omega)
/-- the next newline from i on, or the end -/
def NL (s : List Nat) (i k : Nat) : Prop := i ≤ k ∧ (∀ v, i ≤ v → v < k → s[v]? ≠ some 10) ∧ (s[k]? = some 10 ∨ k = s.length)
theorem nl_ex (s : List Nat) : ∀ (m i : Nat), s.length = i + m → ∃ k, NL s i k ∧ k ≤ s.length := by
  intro m
  induction m with
  | zero => intro i h; exact ⟨i, ⟨Nat.le_refl _, fun v h1 h2 => by omega, .inr (by omega)⟩, by omega⟩
  | succ m ih =>
    intro i h
    by_cases h10 : s[i]? = some 10
    · exact ⟨i, ⟨Nat.le_refl _, fun v h1 h2 => by omega, .inl h10⟩, by omega⟩
    · obtain ⟨k, ⟨h1, h2, h3⟩, h4⟩ := ih (i + 1) (by omega)
      refine ⟨k, ⟨by omega, fun v hv hk => ?_, h3⟩, h4⟩
      by_cases e : v = i
      · rw [e]; exact h10
      · exact h2 v (by omega) hk
theorem nl_step {s : List Nat} {i k : Nat} (h : NL s i k) (hi : i < s.length) (h10 : s[i]? ≠ some 10) : NL s (i + 1) k := by
  obtain ⟨h1, h2, h3⟩ := h
  refine ⟨?_, fun v hv hk => h2 v (by omega) hk, h3⟩
  by_cases e : i = k
  · subst e
    rcases h3 with h | h
    · exact absurd h h10
    · omega
  · omega
/-- the tokens from i on -/
inductive Toks (s : List Nat) : Nat → List W → Prop
  | done {i : Nat} (h : s.length ≤ i) : Toks s i []
  | skip {i c : Nat} {l : List W} (h : s[i]? = some c) (hc : c = 32 ∨ c = 10) (r : Toks s (i + 1) l) : Toks s i l
  | cmt {i k : Nat} {l : List W} (h : s[i]? = some 35) (n : NL s i k) (hk : k ≤ s.length) (r : Toks s k l) : Toks s i l
  | tok {i c : Nat} {l : List W} (h : s[i]? = some c) (h1 : c ≠ 32) (h2 : c ≠ 10) (h3 : c ≠ 35) (r : Toks s (tokE s i c).2 l) : Toks s i (tokW s i c :: l)
theorem toks_ex (s : List Nat) : ∀ (m i : Nat), s.length ≤ i + m → ∃ l, Toks s i l := by
  intro m
  induction m with
  | zero => intro i h; exact ⟨[], .done (by omega)⟩
  | succ m ih =>
    intro i h
    by_cases hi : s.length ≤ i
    · exact ⟨[], .done hi⟩
    · have hc := List.getElem?_eq_getElem (l := s) (i := i) (by omega)
      generalize s[i] = c at hc
      by_cases h32 : c = 32 ∨ c = 10
      · obtain ⟨l, hl⟩ := ih (i + 1) (by omega)
        exact ⟨l, .skip hc h32 hl⟩
      · by_cases h35 : c = 35
        · subst h35
          obtain ⟨k, hk, hk2⟩ := nl_ex s (s.length - i) i (by omega)
          have h1 := nl_step hk (by omega) (by rw [hc]; decide)
          obtain ⟨l, hl⟩ := ih k (by have := h1.1; omega)
          exact ⟨l, .cmt hc hk hk2 hl⟩
        · have hg := tok_gt hc
          obtain ⟨l, hl⟩ := ih (tokE s i c).2 (by omega)
          exact ⟨_, .tok hc (fun z => h32 (.inl z)) (fun z => h32 (.inr z)) h35 hl⟩
theorem tok_okD (s : List Nat) (i c : Nat) : okD DP (tokW s i c) = true := by
  have h : (tokE s i c).1 ∈ [kWord, kName, kNumber, kSign, kWrong] := by
    unfold tokE
    split
    · split <;> simp
    · split
      · simp
      · split
        · simp
        · split <;> simp
  have h2 : ∀ x ∈ [kWord, kName, kNumber, kSign, kWrong], (x.all fun c => decide (c < 1114112)) = true := by decide
  unfold tokW DP
  rw [okD_tup]
  simp [okD_str]
  simpa using h2 _ h
theorem toks_okD {s : List Nat} {i : Nat} {l : List W} (h : Toks s i l) : l.all (okD DP) = true := by
  induction h with
  | done => rfl
  | skip _ _ _ ih => exact ih
  | cmt _ _ _ _ ih => exact ih
  | tok _ _ _ _ _ ih => rw [List.all_cons, tok_okD, ih]; rfl
theorem toks_len {s : List Nat} {i : Nat} {l : List W} (h : Toks s i l) : l.length ≤ s.length - i := by
  induction h with
  | done => simp
  | skip h _ _ ih => omega
  | cmt h n hk r ih => have := n.1; omega
  | tok h h1 h2 h3 r ih =>
    have := tok_gt h
    have := (List.getElem?_eq_some_iff.mp h).1
    rw [List.length_cons]; omega
theorem toks_mem {s : List Nat} {i : Nat} {l : List W} (h : Toks s i l) : ∀ x ∈ l, ∃ i c, x = tokW s i c := by
  induction h with
  | done => exact fun x hx => nomatch hx
  | skip _ _ _ ih => exact ih
  | cmt _ _ _ _ ih => exact ih
  | tok _ _ _ _ _ ih =>
    intro x hx
    rcases List.mem_cons.mp hx with rfl | h
    · exact ⟨_, _, rfl⟩
    · exact ih x h

/-- run_end -/
def sp_run : Sp := fun ws G Q _ => match ws with
  | [.str s, .int i, .str al] => s.length ≤ SZ ∧ 0 ≤ i ∧ i ≤ s.length ∧ Q (.int (runE (fun c => decide (c ∈ al)) s i.toNat : Nat)) G
  | _ => False
theorem mono_run : Mono sp_run := by
  intro ws G Q Q' E E' hq he h
  unfold sp_run at h ⊢
  split at h
  · exact ⟨h.1, h.2.1, h.2.2.1, hq _ _ h.2.2.2⟩
  · exact h.elim
theorem len_run (ws : List W) (G : Gh) (Q : QV) (E : XQ) (h : sp_run ws G Q E) : ws.length = 3 := by
  unfold sp_run at h
  split at h
  · rfl
  · exact h.elim
theorem vc_run (ws : List W) (G : Gh) (Q : QV) (E : XQ) (fg : Fgt Q E) (h : sp_run ws G Q E) : rd_run_end { nx := fun _ G' => Q .non G', rt := Q, ex := fun _ => E } (startF 4 ws) G := by
  unfold sp_run at h
  split at h
  · rename_i s i al
    obtain ⟨hz, h0, h1, k⟩ := h
    obtain ⟨i, rfl⟩ := Int.eq_ofNat_of_zero_le h0
    rw [Int.toNat_natCast] at k
    simp only [rd_run_end, startF, sSeq, sSet, sRet, eVar, sWhile, List.map_cons, List.map_nil, List.cons_append, List.nil_append, List.length_cons, List.length_nil, List.replicate, get_zero, get_succ, put_zero, put_succ]
    refine ⟨s.length - i + 1, ?_⟩
    refine whileN_ind (fun n γ K => K = G ∧ ∃ e : Nat, γ = [some (.str s), some (.int (i : Nat)), some (.str al), some (.int (e : Nat))] ∧ e ≤ s.length ∧ s.length ≤ e + n ∧ runE (fun c => decide (c ∈ al)) s e = runE (fun c => decide (c ∈ al)) s i) ?_ _ _ _ ⟨rfl, i, rfl, by omega, by omega, rfl⟩
    rintro n γ K ⟨rfl, e, rfl, he, hn, hr⟩ F hF
    simp only [rd_run_end_c0, tAnd, tV, eOp, eVar, eBlt, bLen, aCons, aNil, rLt, get_zero, get_succ]
    refine ⟨hz, ?_⟩
    by_cases hl : e < s.length
    · rw [if_pos (by simpa using hl)]
      simp only [rAt, at_nat (List.getElem?_eq_getElem hl), rInD, rInB]
      refine ⟨hz, ?_⟩
      cases hm : decide (s[e] ∈ al) with
      | true =>
        rw [if_pos rfl]
        simp only [rd_run_end_b1, sAug, eC, rIadd, get_zero, get_succ, put_zero, put_succ]
        refine hF (n - 1) (by omega) _ _ ⟨rfl, e + 1, rfl, by omega, by omega, ?_⟩
        rw [← hr]
        exact (runE_step (List.getElem?_eq_getElem hl) hm).symm
      | false =>
        rw [if_neg (by decide)]
        have : runE (fun c => decide (c ∈ al)) s e = e := runE_stop fun c hc => by
          rw [List.getElem?_eq_getElem hl] at hc; cases hc; exact hm
        rw [← hr, this] at k
        exact k
    · rw [if_neg (by simpa using hl), if_neg (by decide)]
      have : runE (fun c => decide (c ∈ al)) s e = e := runE_stop fun c hc => by
        rw [List.getElem?_eq_none (by omega)] at hc; cases hc
      rw [← hr, this] at k
      exact k
  · exact h.elim
def okS (s : List Nat) : Prop := s.length ≤ 100000 ∧ ∀ x ∈ s, x < 1114112
/-- token_at, _law_token -/
def sp_tok : Sp := fun ws G Q _ => match ws with
  | [.str s, .int i] => okS s ∧ 0 ≤ i ∧ ∃ c, s[i.toNat]? = some c ∧ Q (tokW s i.toNat c) G
  | _ => False
theorem mono_tok : Mono sp_tok := by
  intro ws G Q Q' E E' hq he h
  unfold sp_tok at h ⊢
  split at h
  · obtain ⟨a, b, c, d, k⟩ := h
    exact ⟨a, b, c, d, hq _ _ k⟩
  · exact h.elim
theorem len_tok (ws : List W) (G : Gh) (Q : QV) (E : XQ) (h : sp_tok ws G Q E) : ws.length = 2 := by
  unfold sp_tok at h
  split at h
  · rfl
  · exact h.elim
theorem words_ok : (wordsL.map W.str).all flatW = true ∧ (wordsL.map W.str).all (okD DP) = true := by decide
theorem fun_letters : (fun c => decide (c ∈ lettersL)) = isLetB := funext in_letters
theorem fun_digits : (fun c => decide (c ∈ digitsL)) = isDigB := funext in_digits
theorem fun_names : (fun c => decide (c ∈ lettersL ++ digitsL ++ [95])) = isNamB := funext in_names
theorem vc_tok (ws : List W) (G : Gh) (Q : QV) (E : XQ) (fg : Fgt Q E) (h : sp_tok ws G Q E) : rd_token_at sp_run { nx := fun _ G' => Q .non G', rt := Q, ex := fun _ => E } (startF 4 ws) G := by
  unfold sp_tok at h
  split at h
  · rename_i s i
    obtain ⟨hs, h0, c, hc, k⟩ := h
    have hs1 := hs.1
    obtain ⟨i, rfl⟩ := Int.eq_ofNat_of_zero_le h0
    rw [Int.toNat_natCast] at hc k
    have hz : s.length ≤ SZ := by simp only [SZ]; omega
    have hi := (List.getElem?_eq_some_iff.mp hc).1
    have e1 : c_LETTERS = .str lettersL := rfl
    have e2 : c_NAME_CHARACTERS = .str (lettersL ++ digitsL ++ [95]) := rfl
    have e3 : c_DIGITS = .str digitsL := rfl
    have e4 : c_SIGNS = .str signsL := rfl
    have e5 : c_WORDS = .ktp (wordsL.map W.str) := rfl
    unfold tokW tokE at k
    simp only [rd_token_at, startF, sSeq, sSet, sRet, sIf, tV, eVar, eC, eOp, eCall, eTup, eSl, oPart, aCons, aNil, e1, e2, e3, e4, e5, rAt, at_nat hc, rInD, rInB, List.map_cons, List.map_nil, List.cons_append, List.nil_append, List.length_cons, List.length_nil, List.replicate, get_zero, get_succ, put_zero, put_succ]
    refine ⟨hz, ?_⟩
    rw [in_letters]
    by_cases hl : isLetB c = true
    · rw [if_pos hl] at k ⊢
      simp only [sp_run, Int.toNat_natCast, fun_names]
      refine ⟨hz, by omega, by omega, ?_⟩
      simp only [rSl, flatW, words_ok.1, words_ok.2]
      refine ⟨hz, ⟨trivial, trivial⟩, ?_⟩
      change (if isWord (cut s (some (i : Int)) (some (runE isNamB s i : Nat))) = true then _ else _)
      split at k
      · rename_i hw
        rw [if_pos hw]
        exact ⟨show 3 ≤ SZ by decide, k⟩
      · rename_i hw
        rw [if_neg hw]
        exact ⟨show 3 ≤ SZ by decide, k⟩
    · rw [if_neg hl] at k ⊢
      simp only [sNext, sSeq, sIf, tV, eOp, eVar, eC, rInD, rInB, sRet, eTup, eCall, aCons, aNil, get_zero, get_succ]
      rw [in_digits]
      by_cases hd : isDigB c = true
      · rw [if_pos hd] at k ⊢
        simp only [sp_run, Int.toNat_natCast, fun_digits]
        exact ⟨hz, by omega, by omega, show 3 ≤ SZ by decide, k⟩
      · rw [if_neg hd] at k ⊢
        simp only [sNext, sSeq, sIf, tV, eOp, eVar, eC, eSl, oPart, rAdd, rSl, rEq, eqA, rInD, rInB, sRet, eTup, aCons, aNil, get_zero, get_succ]
        refine ⟨hz, ?_⟩
        by_cases heq : cut s (some (i : Int)) (some ((i : Int) + 2)) = [61, 61]
        · rw [if_pos heq] at k
          rw [if_pos (by simpa using heq)]
          exact ⟨show 3 ≤ SZ by decide, k⟩
        · rw [if_neg heq] at k
          rw [if_neg (by simpa using heq)]
          by_cases hsg : c ∈ signsL
          · rw [if_pos hsg] at k
            rw [if_pos (by simpa using hsg)]
            exact ⟨show 3 ≤ SZ by decide, k⟩
          · rw [if_neg hsg] at k
            rw [if_neg (by simpa using hsg)]
            exact ⟨show 3 ≤ SZ by decide, k⟩
  · exact h.elim
/-- tokens_between 0 to the end, tokens, _law_tokens -/
def sp_between : Sp := fun ws G Q _ => match ws with
  | [.str s, .int i, .int e] => okS s ∧ 0 ≤ i ∧ e = s.length ∧ ∃ L, Toks s i.toNat L ∧ ∀ G' p, Le G G' → G' p = some (.lst L) → Q (.ref p) G'
  | _ => False
theorem mono_between : Mono sp_between := by
  intro ws G Q Q' E E' hq he h
  unfold sp_between at h ⊢
  split at h
  · obtain ⟨a, b, c, L, d, k⟩ := h
    exact ⟨a, b, c, L, d, fun G' p l e => hq _ _ (k G' p l e)⟩
  · exact h.elim
theorem len_between (ws : List W) (G : Gh) (Q : QV) (E : XQ) (h : sp_between ws G Q E) : ws.length = 3 := by
  unfold sp_between at h
  split at h
  · rfl
  · exact h.elim
theorem fnd_NL {s : List Nat} {i k : Nat} {r : Int} (h : fndS s 10 i r) (n : NL s i k) (hk : k ≤ s.length) : (if r < 0 then (s.length : Int) else r) = (k : Int) := by
  obtain ⟨n1, n2, n3⟩ := n
  rcases h with ⟨rfl, h⟩ | ⟨k', rfl, h1, h2, h3⟩
  · rw [if_pos (by omega)]
    rcases n3 with n3 | n3
    · exact absurd n3 (h k n1)
    · omega
  · rw [if_neg (by omega)]
    have hk' := (List.getElem?_eq_some_iff.mp h2).1
    have : ¬ k' < k := fun z => n2 k' h1 z h2
    have : ¬ k < k' := fun z => by
      rcases n3 with n3 | n3
      · exact h3 k n1 z n3
      · omega
    omega
theorem vc_between (ws : List W) (G : Gh) (Q : QV) (E : XQ) (fg : Fgt Q E) (h : sp_between ws G Q E) : rd_tokens_between sp_tok { nx := fun _ G' => Q .non G', rt := Q, ex := fun _ => E } (startF 7 ws) G := by
  unfold sp_between at h
  split at h
  · rename_i s i e
    obtain ⟨hs, h0, rfl, L, hT, k⟩ := h
    have hs1 := hs.1
    obtain ⟨i, rfl⟩ := Int.eq_ofNat_of_zero_le h0
    rw [Int.toNat_natCast] at hT
    have hz : s.length ≤ SZ := by simp only [SZ]; omega
    simp only [rd_tokens_between, startF, sSeq, sSet, sRet, eVar, eLst, aNil, sWhile, List.map_cons, List.map_nil, List.cons_append, List.nil_append, List.length_cons, List.length_nil, List.replicate, get_zero, get_succ, put_zero, put_succ]
    refine ⟨by decide, fun p hp => ⟨s.length + 1, ?_⟩⟩
    refine whileN_ind (fun n γ K => Le G K ∧ ∃ (at' : Nat) (done rest : List W) (o5 o6 : Option W), γ = [some (.str s), some (.int (i : Nat)), some (.int (s.length : Nat)), some (.ref p), some (.int (at' : Nat)), o5, o6] ∧ K p = some (.lst done) ∧ done ++ rest = L ∧ Toks s at' rest ∧ s.length ≤ at' + n ∧ done.length ≤ at') ?_ _ _ _ ⟨.up hp, i, [], L, none, none, rfl, up_same, rfl, hT, by omega, Nat.zero_le _⟩
    rintro n γ K ⟨le, at', done, rest, o5, o6, rfl, ep, eL, hR, hn, hd⟩ F hF
    simp only [rd_tokens_between_c0, tV, eOp, eVar, rLt, get_zero, get_succ]
    by_cases hl : at' < s.length
    · rw [if_pos (by simpa using hl)]
      simp only [rd_tokens_between_b1, sIf, tOr, tV, eOp, eVar, eC, rAt, at_nat (List.getElem?_eq_getElem hl), rEq, eqA, get_zero, get_succ]
      refine ⟨hz, ?_⟩
      have hc := List.getElem?_eq_getElem hl
      cases hR with
      | done h => omega
      | skip h hc2 r =>
        rw [h] at hc
        cases hc
        have fin := hF (n - 1) (by omega) [some (.str s), some (.int (i : Nat)), some (.int (s.length : Nat)), some (.ref p), some (.int ((at' + 1 : Nat) : Int)), o5, o6] K ⟨le, at' + 1, done, rest, o5, o6, rfl, ep, eL, r, by omega, by omega⟩
        rcases hc2 with e | e
        · simp [e]; exact fin
        · simp [e]; exact ⟨by simpa using hz, fin⟩
      | cmt h nl hk r =>
        rw [h] at hc
        have e35 : s[at'] = 35 := (Option.some.inj hc).symm
        simp [e35]
        have n1 := nl_step nl hl (by rw [h]; decide)
        refine ⟨by simpa using hz, fun r' hr' => ?_⟩
        have ek := fnd_NL hr' nl hk
        have fin := hF (n - 1) (by omega) [some (.str s), some (.int (i : Nat)), some (.int (s.length : Nat)), some (.ref p), some (.int (_ : Nat)), some (.int r'), o6] K ⟨le, _, done, rest, _, o6, rfl, ep, eL, r, by have := n1.1; omega, by have := n1.1; omega⟩
        rw [← ek] at fin
        by_cases hneg : r' < 0
        · rw [if_pos hneg] at fin ⊢; exact fin
        · rw [if_neg hneg] at fin ⊢; exact fin
      | tok h h1 h2 h3 r =>
        rename_i c l
        rw [h] at hc
        have ec : s[at'] = c := (Option.some.inj hc).symm
        have hg := tok_gt h
        simp [ec, h1, h2, h3]
        refine ⟨by simpa using hz, hs, by omega, c, h, ?_⟩
        simp only [ep, Int.toNat_natCast]
        refine ⟨trivial, by omega, ?_⟩
        have fin := hF (n - 1) (by omega) [some (.str s), some (.int (i : Nat)), some (.int (s.length : Nat)), some (.ref p), some (.int ((tokE s at' c).2 : Nat)), o5, some (tokW s at' c)] (up K p (.lst (done ++ [tokW s at' c]))) ⟨le.upd hp, _, done ++ [tokW s at' c], l, _, _, rfl, up_same, by simpa using eL, r, by omega, by simp; omega⟩
        simpa [tokW, at_, ixn] using fin
    · rw [if_neg (by simpa using hl)]
      cases hR with
      | done h =>
        rw [List.append_nil] at eL
        subst eL
        exact k K p le ep
      | skip h _ _ => have := (List.getElem?_eq_some_iff.mp h).1; omega
      | cmt h _ _ _ => have := (List.getElem?_eq_some_iff.mp h).1; omega
      | tok h _ _ _ _ => have := (List.getElem?_eq_some_iff.mp h).1; omega
  · exact h.elim

def sp_tokens : Sp := fun ws G Q _ => match ws with
  | [.str s] => okS s ∧ ∃ L, Toks s 0 L ∧ ∀ G' p, Le G G' → G' p = some (.lst L) → Q (.ref p) G'
  | _ => False
theorem mono_tokens : Mono sp_tokens := by
  intro ws G Q Q' E E' hq he h
  unfold sp_tokens at h ⊢
  split at h
  · obtain ⟨a, L, d, k⟩ := h
    exact ⟨a, L, d, fun G' p l e => hq _ _ (k G' p l e)⟩
  · exact h.elim
theorem len_tokens (ws : List W) (G : Gh) (Q : QV) (E : XQ) (h : sp_tokens ws G Q E) : ws.length = 1 := by
  unfold sp_tokens at h
  split at h
  · rfl
  · exact h.elim
theorem vc_tokens (ws : List W) (G : Gh) (Q : QV) (E : XQ) (fg : Fgt Q E) (h : sp_tokens ws G Q E) : rd_tokens sp_between { nx := fun _ G' => Q .non G', rt := Q, ex := fun _ => E } (startF 1 ws) G := by
  unfold sp_tokens at h
  split at h
  · rename_i s
    obtain ⟨hs, L, hT, k⟩ := h
    have hs1 := hs.1
    simp only [rd_tokens, startF, sRet, eVar, eC, eCall, eBlt, bLen, aCons, aNil, List.map_cons, List.map_nil, List.cons_append, List.nil_append, List.length_cons, List.length_nil, List.replicate, get_zero, get_succ, sp_between]
    exact ⟨by simp only [SZ]; omega, hs, by decide, trivial, L, hT, k⟩
  · exact h.elim
def nameTok (s : List Nat) : W := .tup [.str kName, .int 0, .int (s.length : Nat)]
def sp_isname : Sp := fun ws G Q _ => match ws with
  | [.str s] => okS s ∧ ∃ L, Toks s 0 L ∧ Q (.bl (weqL L [nameTok s])) G
  | _ => False
theorem mono_isname : Mono sp_isname := by
  intro ws G Q Q' E E' hq he h
  unfold sp_isname at h ⊢
  split at h
  · obtain ⟨a, L, d, k⟩ := h
    exact ⟨a, L, d, hq _ _ k⟩
  · exact h.elim
theorem len_isname (ws : List W) (G : Gh) (Q : QV) (E : XQ) (h : sp_isname ws G Q E) : ws.length = 1 := by
  unfold sp_isname at h
  split at h
  · rfl
  · exact h.elim
theorem nameTok_okD (s : List Nat) : okD DP (nameTok s) = true := by
  have h2 : (kName.all fun c => decide (c < 1114112)) = true := by decide
  unfold nameTok DP
  rw [okD_tup]
  simp [okD_str]
  simpa using h2
theorem vc_isname (ws : List W) (G : Gh) (Q : QV) (E : XQ) (fg : Fgt Q E) (h : sp_isname ws G Q E) : rd_is_name sp_tokens { nx := fun _ G' => Q .non G', rt := Q, ex := fun _ => E } (startF 1 ws) G := by
  unfold sp_isname at h
  split at h
  · rename_i s
    obtain ⟨hs, L, hT, k⟩ := h
    have hs1 := hs.1
    simp only [rd_is_name, startF, sRet, eVar, eC, eCall, eOp, eLst, eTup, eBlt, bLen, aCons, aNil, List.map_cons, List.map_nil, List.cons_append, List.nil_append, List.length_cons, List.length_nil, List.replicate, get_zero, get_succ, sp_tokens]
    refine ⟨hs, L, hT, fun G' p le ep => ⟨by simp only [SZ]; omega, show 3 ≤ SZ by decide, show 1 ≤ SZ by decide, fun q hq => ?_⟩⟩
    simp only [rEq, eqA, up_ne (ne_free' ep hq), ep, up_same]
    have ok2 : [W.tup [W.str [110, 97, 109, 101], W.int 0, W.int (s.length : Nat)]].all (okD DP) = true := by
      rw [List.all_cons, show okD DP (W.tup [W.str [110, 97, 109, 101], W.int 0, W.int (s.length : Nat)]) = true from nameTok_okD s]; rfl
    exact ⟨toks_okD hT, ok2, fg.rt _ _ _ (le.trans (.up hq)) k⟩
  · exact h.elim

/-! ### the tokens, reckoned -/
def nlF (s : List Nat) : Nat → Nat → Nat
  | 0, i => i
  | n + 1, i => if s[i]? = some 10 ∨ s.length ≤ i then i else nlF s n (i + 1)
theorem nlF_ok (s : List Nat) : ∀ (n i : Nat), i ≤ s.length → s.length ≤ i + n → NL s i (nlF s n i) ∧ nlF s n i ≤ s.length := by
  intro n
  induction n with
  | zero => intro i h0 h; exact ⟨⟨Nat.le_refl _, fun v h1 h2 => absurd h2 (by unfold nlF; omega), .inr (by unfold nlF; omega)⟩, by unfold nlF; omega⟩
  | succ n ih =>
    intro i h0 h
    unfold nlF
    by_cases q : s[i]? = some 10 ∨ s.length ≤ i
    · rw [if_pos q]
      refine ⟨⟨Nat.le_refl _, fun v h1 h2 => by omega, ?_⟩, h0⟩
      rcases q with q | q
      · exact .inl q
      · exact .inr (by omega)
    · rw [if_neg q]
      rw [not_or] at q
      obtain ⟨⟨h1, h2, h3⟩, h4⟩ := ih (i + 1) (by omega) (by omega)
      refine ⟨⟨by omega, fun v hv hk => ?_, h3⟩, h4⟩
      by_cases e : v = i
      · rw [e]; exact q.1
      · exact h2 v (by omega) hk
def toksF (s : List Nat) : Nat → Nat → List W
  | 0, _ => []
  | n + 1, i => match s[i]? with
    | none => []
    | some c => if c = 32 ∨ c = 10 then toksF s n (i + 1) else if c = 35 then toksF s n (nlF s (s.length - i) i) else tokW s i c :: toksF s n (tokE s i c).2
theorem toksF_ok (s : List Nat) : ∀ (n i : Nat), s.length ≤ i + n → Toks s i (toksF s n i) := by
  intro n
  induction n with
  | zero => intro i h; exact .done (by omega)
  | succ n ih =>
    intro i h
    unfold toksF
    cases hc : s[i]? with
    | none => exact .done (List.getElem?_eq_none_iff.mp hc)
    | some c =>
      have hi := (List.getElem?_eq_some_iff.mp hc).1
      simp only
      by_cases h32 : c = 32 ∨ c = 10
      · rw [if_pos h32]
        exact .skip hc h32 (ih (i + 1) (by omega))
      · rw [if_neg h32]
        by_cases h35 : c = 35
        · subst h35
          rw [if_pos rfl]
          obtain ⟨hk, hk2⟩ := nlF_ok s (s.length - i) i (by omega) (by omega)
          have h1 := nl_step hk hi (by rw [hc]; decide)
          exact .cmt hc hk hk2 (ih _ (by have := h1.1; omega))
        · rw [if_neg h35]
          have hg := tok_gt hc
          exact .tok hc (fun z => h32 (.inl z)) (fun z => h32 (.inr z)) h35 (ih _ (by omega))
def toksL (s : List Nat) : List W := toksF s s.length 0
theorem toksL_ok (s : List Nat) : Toks s 0 (toksL s) := toksF_ok s _ 0 (by omega)

/-! ### is_name, reckoned -/
def isNameF (s : List Nat) : Bool := weqL (toksL s) [nameTok s]
def sp_isnameF : Sp := fun ws G Q _ => match ws with
  | [.str s] => okS s ∧ Q (.bl (isNameF s)) G
  | _ => False
theorem mono_isnameF : Mono sp_isnameF := by
  intro ws G Q Q' E E' hq he h
  unfold sp_isnameF at h ⊢
  split at h
  · exact ⟨h.1, hq _ _ h.2⟩
  · exact h.elim
theorem len_isnameF (ws : List W) (G : Gh) (Q : QV) (E : XQ) (h : sp_isnameF ws G Q E) : ws.length = 1 := by
  unfold sp_isnameF at h
  split at h
  · rfl
  · exact h.elim
theorem vc_isnameF (ws : List W) (G : Gh) (Q : QV) (E : XQ) (fg : Fgt Q E) (h : sp_isnameF ws G Q E) : rd_is_name sp_tokens { nx := fun _ G' => Q .non G', rt := Q, ex := fun _ => E } (startF 1 ws) G := by
  refine vc_isname ws G Q E fg ?_
  unfold sp_isnameF at h
  split at h
  · exact ⟨h.1, _, toksL_ok _, h.2⟩
  · exact h.elim

/-! ### code texts, reckoned -/
def signsC : List (List Nat) := [[43], [45], [42], [47], [61, 61], [60]]
def sData : List Nat := [100, 97, 116, 97]
def sNumber : List Nat := [110, 117, 109, 98, 101, 114]
def sSign : List Nat := [115, 105, 103, 110]
def sName : List Nat := [110, 97, 109, 101]
def sTrue : List Nat := [84, 114, 117, 101]
def sFalse : List Nat := [70, 97, 108, 115, 101]
def numF (w : List Nat) : Option Int :=
  if w = [] ∨ 10 < w.length ∨ (w.head? = some 48 ∧ 1 < w.length) then none
  else if w.all isDg = true then (if digVal w < 4294967296 then some (digVal w : Nat) else none) else none
def itemF (w sh : List Nat) : Option W :=
  if sh = sData ∧ (w = sTrue ∨ w = sFalse) then some (.bl (decide (w = sTrue)))
  else if sh = sData ∨ sh = sNumber then (numF w).map W.int
  else if (sh = sSign ∧ w ∈ signsC) ∨ (sh = sName ∧ isNameF w = true) then some (.str w) else none
def itemsF : List (List Nat) → List (List Nat) → Option (List W)
  | w :: ws, s :: ss => (match itemF w s with
    | some x => (itemsF ws ss).map (x :: ·)
    | none => none)
  | _, _ => some []
def insW : List (List Nat) → Option W
  | [] => none
  | w :: ws => (match lookS kd_SHAPES w with
    | some (.ktp sh) => (match strsW sh with
      | some ss => if ss.length = ws.length then (itemsF ws ss).map fun xs => .tup (.str w :: xs) else none
      | none => none)
    | _ => none)
def insF (l : List Nat) : Option W := insW (splitN 32 l)
def insL : List (List Nat) → Option (List W)
  | [] => some []
  | l :: r => (match insF l with
    | some x => (insL r).map (x :: ·)
    | none => none)
def cCode : List Nat := [99, 111, 100, 101, 32]
def parseL (ls : List (List Nat)) : Option W :=
  if ls.length < 3 ∨ ls.getLast? ≠ some [] ∨ (ls.headD []).take 5 ≠ cCode then none
  else (match numF ((ls.headD []).drop 5) with
    | some n => (insL (ls.tail.dropLast)).map fun rs => .tup [.int n, .tup rs]
    | none => none)
def parseF (s : List Nat) : Option W := parseL (splitN 10 s)
/-! ### the promises -/
def sp_num (C : Nat) : Sp := fun ws G Q E => match ws with
  | [.str s] => s.length ≤ 100000 ∧ (∀ n, numF s = some n → ∀ G', Le G G' → Q (.int n) G') ∧ (numF s = none → ∀ G', Le G G' → E (.ref C) [] G')
  | _ => False
theorem mono_num (C : Nat) : Mono (sp_num C) := by (intro ws G Q Q' E E' hq he h; unfold sp_num at h ⊢; (try split at h) <;> (repeat (first | exact False.elim h | exact h | exact hq _ _ h | exact he _ _ _ h | (refine ⟨h.1, ?_⟩; replace h := h.2) | (refine And.imp ?_ ?_ h <;> (clear h; intro h)) | (obtain ⟨x, h⟩ := h; refine ⟨x, ?_⟩) | (intro x; replace h := h x))))
theorem len_num (C : Nat) : ∀ ws G Q E, sp_num C ws G Q E → ws.length = 1 := by (intro ws G Q E h; unfold sp_num at h; (try split at h) <;> first | rfl | exact False.elim h)
def sp_item (C : Nat) : Sp := fun ws G Q E => match ws with
  | [.str s, .str h] => okS s ∧ (∀ n, itemF s h = some n → ∀ G', Le G G' → Q n G') ∧ (itemF s h = none → ∀ G', Le G G' → E (.ref C) [] G')
  | _ => False
theorem mono_item (C : Nat) : Mono (sp_item C) := by (intro ws G Q Q' E E' hq he h; unfold sp_item at h ⊢; (try split at h) <;> (repeat (first | exact False.elim h | exact h | exact hq _ _ h | exact he _ _ _ h | (refine ⟨h.1, ?_⟩; replace h := h.2) | (refine And.imp ?_ ?_ h <;> (clear h; intro h)) | (obtain ⟨x, h⟩ := h; refine ⟨x, ?_⟩) | (intro x; replace h := h x))))
theorem len_item (C : Nat) : ∀ ws G Q E, sp_item C ws G Q E → ws.length = 2 := by (intro ws G Q E h; unfold sp_item at h; (try split at h) <;> first | rfl | exact False.elim h)
def sp_ins (C : Nat) : Sp := fun ws G Q E => match ws with
  | [.str s] => okS s ∧ (∀ n, insF s = some n → ∀ G', Le G G' → Q n G') ∧ (insF s = none → ∀ G', Le G G' → E (.ref C) [] G')
  | _ => False
theorem mono_ins (C : Nat) : Mono (sp_ins C) := by (intro ws G Q Q' E E' hq he h; unfold sp_ins at h ⊢; (try split at h) <;> (repeat (first | exact False.elim h | exact h | exact hq _ _ h | exact he _ _ _ h | (refine ⟨h.1, ?_⟩; replace h := h.2) | (refine And.imp ?_ ?_ h <;> (clear h; intro h)) | (obtain ⟨x, h⟩ := h; refine ⟨x, ?_⟩) | (intro x; replace h := h x))))
theorem len_ins (C : Nat) : ∀ ws G Q E, sp_ins C ws G Q E → ws.length = 1 := by (intro ws G Q E h; unfold sp_ins at h; (try split at h) <;> first | rfl | exact False.elim h)
def sp_parse (C : Nat) : Sp := fun ws G Q E => match ws with
  | [.str s] => okS s ∧ (∀ n, parseF s = some n → ∀ G', Le G G' → Q n G') ∧ (parseF s = none → ∀ G', Le G G' → E (.ref C) [] G')
  | _ => False
theorem mono_parse (C : Nat) : Mono (sp_parse C) := by (intro ws G Q Q' E E' hq he h; unfold sp_parse at h ⊢; (try split at h) <;> (repeat (first | exact False.elim h | exact h | exact hq _ _ h | exact he _ _ _ h | (refine ⟨h.1, ?_⟩; replace h := h.2) | (refine And.imp ?_ ?_ h <;> (clear h; intro h)) | (obtain ⟨x, h⟩ := h; refine ⟨x, ?_⟩) | (intro x; replace h := h x))))
theorem len_parse (C : Nat) : ∀ ws G Q E, sp_parse C ws G Q E → ws.length = 1 := by (intro ws G Q E h; unfold sp_parse at h; (try split at h) <;> first | rfl | exact False.elim h)
def sp_refused : Sp := fun ws G Q _ => match ws with
  | [.str s] => okS s ∧ parseF s = none ∧ ∀ G', Le G G' → Q (.bl true) G'
  | _ => False
theorem mono_refused : Mono sp_refused := by (intro ws G Q Q' E E' hq he h; unfold sp_refused at h ⊢; (try split at h) <;> (repeat (first | exact False.elim h | exact h | exact hq _ _ h | exact he _ _ _ h | (refine ⟨h.1, ?_⟩; replace h := h.2) | (refine And.imp ?_ ?_ h <;> (clear h; intro h)) | (obtain ⟨x, h⟩ := h; refine ⟨x, ?_⟩) | (intro x; replace h := h x))))
theorem len_refused : ∀ ws G Q E, sp_refused ws G Q E → ws.length = 1 := by (intro ws G Q E h; unfold sp_refused at h; (try split at h) <;> first | rfl | exact False.elim h)

theorem any_str (l : List (List Nat)) (s : List Nat) : ((l.map W.str).any fun w => weq w (.str s)) = decide (s ∈ l) := by
  induction l with
  | nil => rfl
  | cons a r ih =>
    rw [List.map_cons, List.any_cons, ih]
    simp only [weq]
    by_cases h : a = s
    · subst h; simp
    · have h' : ¬ s = a := fun z => h z.symm
      simp [h, h']
theorem vc_num (C : Nat) (ws : List W) (G : Gh) (Q : QV) (E : XQ) (fg : Fgt Q E) (h : sp_num C ws G Q E) : rd_number_in C { nx := fun _ G' => Q .non G', rt := Q, ex := fun _ => E } (startF 2 ws) G := by
  unfold sp_num at h
  split at h
  · rename_i s
    obtain ⟨hl, h1, h2⟩ := h
    have hz : s.length ≤ SZ := by simp only [SZ]; omega
    have e1 : c_MOST_DIGITS = .int 10 := rfl
    have e2 : c_SIZE = .int 4294967296 := rfl
    have e3 : c_DIGITS_codetext = .str digitsL := rfl
    simp only [rd_number_in, startF, sSeq, sSet, sRet, sRetN, sIf, sNext, sDrop, sAsg, sAug, sBrk, sCnt, sThrow, sFld, sFldAug, sPutA, sDput, sFor, iVal, iRng1, iRng2, tV, tTru, tAnd, tOr, tNot, eVar, eC, eOp, eUn, eIf, eAnd, eOr, eNot, eCh, eCh3, eCall, eBlt, eMet, eMakeX, eCallV, eFld, asIns, eTup, eLst, eDnewT, eDnew, eBm, tyW, aCons, aNil, aCs, eSl, oNo, oPart, eDget1, eDget2, eDpop1, eDpop2, eDsetd, isDW, isDM, popK, popD, dictOf, rAt, rIx, rDget, rInD, rNotInD, rInB, rIn, rNotIn, rInA, rEq, rNe, eqA, rLt, rLe, rGt, rGe, rIs, rIsNot, rIsL, rIsLN, rAdd, rSub, rMod, rNeg, rIadd, rSl, isN_non, isN_bl, isN_int, isN_str, isN_ref, isN_tup, gName, gTup, gCons, gNil, truth, bLen, bAbs, bMin, bMax, bInt, bSum, bTuple, bList, bIsi, clsN, mAppend, mPop, get_zero, get_succ, put_zero, put_succ, del_zero, del_succ, nthW_zero, nthW_succ, setF_nil, setF_zero, setF_succ, Option.map_some, List.getElem?_cons_zero, List.getElem?_cons_succ, List.map_cons, List.map_nil, List.cons_append, List.nil_append, List.length_cons, List.length_nil, List.replicate, Bool.not_true, Bool.not_false, Bool.false_eq_true, if_false, if_true, e1, e2, e3]
    by_cases c1 : s = []
    · rw [if_pos (decide_eq_true c1)]
      exact h2 (by unfold numF; rw [if_pos (.inl c1)]) G .refl
    rw [if_neg (by simpa using c1)]
    refine ⟨hz, ?_⟩
    by_cases c2 : 10 < s.length
    · rw [if_pos (decide_eq_true (by omega))]
      exact h2 (by unfold numF; rw [if_pos (.inr (.inl c2))]) G .refl
    rw [if_neg (by simp; omega)]
    obtain ⟨d, r, rfl⟩ := List.exists_cons_of_ne_nil c1
    have a0 : at_ (d :: r) 0 = some d := at_nat (i := 0) rfl
    simp only [a0]
    refine ⟨hz, ?_⟩
    by_cases c3 : d = 48 ∧ 1 < (d :: r).length
    · rw [if_pos (by simp [c3.1])]
      refine ⟨hz, ?_⟩
      rw [if_pos (decide_eq_true (by omega))]
      exact h2 (by unfold numF; rw [if_pos (.inr (.inr ⟨by rw [c3.1]; rfl, c3.2⟩))]) G .refl
    have nf : numF (d :: r) = if (d :: r).all isDg = true then (if digVal (d :: r) < 4294967296 then some ((digVal (d :: r) : Nat) : Int) else none) else none := by
      unfold numF
      rw [if_neg]
      rintro (z | z | z)
      · exact c1 z
      · exact c2 z
      · exact c3 ⟨by simpa using z.1, z.2⟩
    have rest : eLc (iVal (eVar 0)) (gName 1) tYes (eOp rInD (eVar 1) (eC (.str digitsL))) [1] [some (W.str (d :: r)), none] G E fun x G1 => bAll [x] G1 fun x G1 => truth x G1 fun k G1 => if (!k) = true then E (W.ref C) [] G1 else
          d :: r ≠ [] ∧ (d :: r).all isDg = true ∧ (d :: r).length ≤ 640 ∧ if decide ((4294967296 : Int) ≤ ↑(digVal (d :: r))) = true then E (W.ref C) [] G1 else d :: r ≠ [] ∧ (d :: r).all isDg = true ∧ (d :: r).length ≤ 640 ∧ Q (W.int ↑(digVal (d :: r))) G1 := by
      refine lc_str (f := fun c => .bl (isDg c)) (fun K k => k) hz (fun c hc G' K l k => ?_) fun p hp => ?_
      · simp only [startF, sSeq, sSet, sRet, sRetN, sIf, sNext, sDrop, sAsg, sAug, sBrk, sCnt, sThrow, sFld, sFldAug, sPutA, sDput, sFor, iVal, iRng1, iRng2, tV, tTru, tAnd, tOr, tNot, eVar, eC, eOp, eUn, eIf, eAnd, eOr, eNot, eCh, eCh3, eCall, eBlt, eMet, eMakeX, eCallV, eFld, asIns, eTup, eLst, eDnewT, eDnew, eBm, tyW, aCons, aNil, aCs, eSl, oNo, oPart, eDget1, eDget2, eDpop1, eDpop2, eDsetd, isDW, isDM, popK, popD, dictOf, rAt, rIx, rDget, rInD, rNotInD, rInB, rIn, rNotIn, rInA, rEq, rNe, eqA, rLt, rLe, rGt, rGe, rIs, rIsNot, rIsL, rIsLN, rAdd, rSub, rMod, rNeg, rIadd, rSl, isN_non, isN_bl, isN_int, isN_str, isN_ref, isN_tup, gName, gTup, gCons, gNil, truth, bLen, bAbs, bMin, bMax, bInt, bSum, bTuple, bList, bIsi, clsN, mAppend, mPop, get_zero, get_succ, put_zero, put_succ, del_zero, del_succ, nthW_zero, nthW_succ, setF_nil, setF_zero, setF_succ, Option.map_some, List.getElem?_cons_zero, List.getElem?_cons_succ, List.map_cons, List.map_nil, List.cons_append, List.nil_append, List.length_cons, List.length_nil, List.replicate, Bool.not_true, Bool.not_false, Bool.false_eq_true, if_false, if_true, wipe_cons, wipe_nil]
        rw [in_digits]
        exact k
      · have e : (d :: r).map (fun c => W.bl (isDg c)) = ((d :: r).map isDg).map W.bl := by rw [List.map_map]; rfl
        simp only [bAll, up_same, e, blsW_map, truth]
        rw [show ((d :: r).map isDg).all id = (d :: r).all isDg by rw [List.all_map]; rfl]
        cases c4 : (d :: r).all isDg with
        | false =>
          rw [if_pos (by rfl)]
          exact h2 (by rw [nf, c4, if_neg (by decide)]) _ (.up hp)
        | true =>
          rw [if_neg (by decide)]
          rw [c4, if_pos rfl] at nf
          refine ⟨c1, rfl, by omega, ?_⟩
          by_cases c5 : digVal (d :: r) < 4294967296
          · rw [if_neg (by simp; omega)]
            rw [if_pos c5] at nf
            exact ⟨c1, rfl, by omega, h1 _ nf _ (.up hp)⟩
          · rw [if_pos (decide_eq_true (by omega))]
            rw [if_neg c5] at nf
            exact h2 nf _ (.up hp)
    by_cases c6 : d = 48
    · rw [if_pos (by simp [c6])]
      refine ⟨hz, ?_⟩
      rw [if_neg (by have : ¬ 1 < (d :: r).length := fun z => c3 ⟨c6, z⟩; simp only [decide_eq_true_eq]; omega)]
      exact rest
    · rw [if_neg (by simp [c6])]
      exact rest
  · exact h.elim
theorem vc_item (C : Nat) (ws : List W) (G : Gh) (Q : QV) (E : XQ) (fg : Fgt Q E) (h : sp_item C ws G Q E) : rd_item_in C (sp_num C) sp_isnameF { nx := fun _ G' => Q .non G', rt := Q, ex := fun _ => E } (startF 2 ws) G := by
  unfold sp_item at h
  split at h
  · rename_i s sh
    obtain ⟨ok, h1, h2⟩ := h
    have e1 : c_SIGNS_codes = .ktp (signsC.map W.str) := rfl
    have f1 : ∀ l : List (List Nat), (l.map W.str).all flatW = true := fun l => by rw [List.all_map]; exact List.all_eq_true.mpr fun _ _ => rfl
    have f2 : ∀ l : List (List Nat), ((l.map W.str).any fun w => weq w (.str s)) = decide (s ∈ l) := fun l => any_str l s
    have f3 : ∀ l : List (List Nat), ((l.map W.str).any fun w => weq w (.str sh)) = decide (sh ∈ l) := fun l => any_str l sh
    have a1 := f1 [sTrue, sFalse]
    have a2 := f1 [sData, sNumber]
    have a3 := f1 signsC
    have b1 := f2 [sTrue, sFalse]
    have b2 := f3 [sData, sNumber]
    simp only [sTrue, sFalse, sData, sNumber, List.map_cons, List.map_nil] at a1 a2 b1 b2
    simp only [rd_item_in, startF, sSeq, sSet, sRet, sRetN, sIf, sNext, sDrop, sAsg, sAug, sBrk, sCnt, sThrow, sFld, sFldAug, sPutA, sDput, sFor, iVal, iRng1, iRng2, tV, tTru, tAnd, tOr, tNot, eVar, eC, eOp, eUn, eIf, eAnd, eOr, eNot, eCh, eCh3, eCall, eBlt, eMet, eMakeX, eCallV, eFld, asIns, eTup, eLst, eDnewT, eDnew, eBm, tyW, aCons, aNil, aCs, eSl, oNo, oPart, eDget1, eDget2, eDpop1, eDpop2, eDsetd, isDW, isDM, popK, popD, dictOf, rAt, rIx, rDget, rInD, rNotInD, rInB, rIn, rNotIn, rInA, rEq, rNe, eqA, rLt, rLe, rGt, rGe, rIs, rIsNot, rIsL, rIsLN, rAdd, rSub, rMod, rNeg, rIadd, rSl, isN_non, isN_bl, isN_int, isN_str, isN_ref, isN_tup, gName, gTup, gCons, gNil, truth, bLen, bAbs, bMin, bMax, bInt, bSum, bTuple, bList, bIsi, clsN, mAppend, mPop, get_zero, get_succ, put_zero, put_succ, del_zero, del_succ, nthW_zero, nthW_succ, setF_nil, setF_zero, setF_succ, Option.map_some, List.getElem?_cons_zero, List.getElem?_cons_succ, List.map_cons, List.map_nil, List.cons_append, List.nil_append, List.length_cons, List.length_nil, List.replicate, Bool.not_true, Bool.not_false, Bool.false_eq_true, if_false, if_true, e1, a1, a2, a3, b1, b2, f2, flatW]
    have s2 : (0 + 1 + 1 ≤ SZ) = True := by simp
    simp only [s2, true_and, true_or, and_true]
    unfold itemF at h1 h2
    unfold sTrue sFalse sData sNumber sSign sName at h1 h2
    have last : ∀ (x : Option W), (if sh = [100, 97, 116, 97] ∨ sh = [110, 117, 109, 98, 101, 114] then x else if (sh = [115, 105, 103, 110] ∧ s ∈ signsC) ∨ (sh = [110, 97, 109, 101] ∧ isNameF s = true) then some (W.str s) else none) = none → True := fun _ _ => trivial
    by_cases c1 : sh = [100, 97, 116, 97]
    · subst c1
      rw [if_pos (by decide)]
      by_cases c2 : s = [84, 114, 117, 101] ∨ s = [70, 97, 108, 115, 101]
      · rw [if_pos (by simpa using c2)]
        exact h1 _ (by rw [if_pos ⟨rfl, c2⟩]) _ .refl
      · rw [if_neg (by simpa using c2), if_pos (by decide)]
        rw [if_neg (fun z => c2 z.2), if_pos (.inl rfl)] at h1 h2
        exact ⟨ok.1, fun n hn G' l => h1 _ (by rw [hn]; rfl) _ l, fun hn G' l => h2 (by rw [hn]; rfl) _ l⟩
    · rw [if_neg (by simpa using c1)]
      rw [if_neg (fun z => c1 z.1)] at h1 h2
      by_cases c2 : sh = [110, 117, 109, 98, 101, 114]
      · subst c2
        rw [if_pos (by decide)]
        rw [if_pos (.inr rfl)] at h1 h2
        exact ⟨ok.1, fun n hn G' l => h1 _ (by rw [hn]; rfl) _ l, fun hn G' l => h2 (by rw [hn]; rfl) _ l⟩
      · rw [if_neg (by simp [c1, c2])]
        rw [if_neg (by simp [c1, c2])] at h1 h2
        by_cases c3 : sh = [115, 105, 103, 110]
        · subst c3
          rw [if_pos (by decide)]
          by_cases c4 : s ∈ signsC
          · rw [if_pos (decide_eq_true c4)]
            exact h1 _ (by rw [if_pos (.inl ⟨rfl, c4⟩)]) _ .refl
          · rw [if_neg (by simpa using c4), if_neg (by decide)]
            exact h2 (by rw [if_neg]; rintro (z | z); exact c4 z.2; exact absurd z.1 (by decide)) _ .refl
        · rw [if_neg (by simpa using c3)]
          by_cases c4 : sh = [110, 97, 109, 101]
          · subst c4
            rw [if_pos (by decide)]
            refine ⟨ok, ?_⟩
            simp only
            by_cases c5 : isNameF s = true
            · rw [if_pos c5]
              exact h1 _ (by rw [if_pos (.inr ⟨rfl, c5⟩)]) _ .refl
            · rw [if_neg c5]
              exact h2 (by rw [if_neg]; rintro (z | z); exact c3 z.1; exact c5 z.2) _ .refl
          · rw [if_neg (by simpa using c4)]
            exact h2 (by rw [if_neg]; rintro (z | z); exact c3 z.1; exact c4 z.1) _ .refl
  · exact h.elim

theorem shapes_kt {k : List Nat} {v : W} (h : lookS kd_SHAPES k = some v) : ∃ ss : List (List Nat), v = .ktp (ss.map W.str) ∧ ss.length ≤ 3 := by
  have := lookS_mem h
  have all : ∀ p ∈ kd_SHAPES, ∃ ss : List (List Nat), p.2 = .ktp (ss.map W.str) ∧ ss.length ≤ 3 := by
    unfold kd_SHAPES
    repeat (first | exact List.forall_mem_nil _ | refine List.forall_mem_cons.mpr ⟨⟨[], rfl, by decide⟩, ?_⟩ | refine List.forall_mem_cons.mpr ⟨⟨[_], rfl, by decide⟩, ?_⟩ | refine List.forall_mem_cons.mpr ⟨⟨[_, _], rfl, by decide⟩, ?_⟩ | refine List.forall_mem_cons.mpr ⟨⟨[_, _, _], rfl, by decide⟩, ?_⟩)
  exact all _ this
def itF (w : W) : Option W := match w with
  | .tup [.str a, .str b] => itemF a b
  | _ => none
theorem itF_all : ∀ (ws ss : List (List Nat)), allM itF (List.zipWith (fun a b => W.tup [a, b]) (ws.map W.str) (ss.map W.str)) = itemsF ws ss
  | [], ss => by cases ss <;> rfl
  | w :: ws, [] => by rfl
  | w :: ws, s :: ss => by
    show (match itemF w s with | some x => (allM itF (List.zipWith (fun a b => W.tup [a, b]) (ws.map W.str) (ss.map W.str))).map (x :: ·) | none => none) = _
    rw [itF_all ws ss]
    rfl
theorem okS_sub {s w : List Nat} {c : Nat} (ok : okS s) (h : w ∈ splitN c s) : okS w := by
  obtain ⟨h1, h2⟩ := splitN_mem h
  exact ⟨by have := ok.1; omega, fun x hx => ok.2 x (h1 x hx).1⟩
theorem itemsF_len : ∀ {ws ss : List (List Nat)} {us : List W}, itemsF ws ss = some us → us.length ≤ ws.length
  | [], ss, us, h => by cases ss <;> (cases h; exact Nat.le_refl _)
  | w :: ws, [], us, h => by cases h; exact Nat.zero_le _
  | w :: ws, s :: ss, us, h => by
    unfold itemsF at h
    split at h
    · cases q : itemsF ws ss with
      | none => rw [q] at h; cases h
      | some vs =>
        rw [q] at h
        cases h
        have := itemsF_len q
        simp only [List.length_cons]; omega
    · cases h
theorem vc_ins (C : Nat) (ws : List W) (G : Gh) (Q : QV) (E : XQ) (fg : Fgt Q E) (h : sp_ins C ws G Q E) : rd_instruction_in C (sp_item C) { nx := fun _ G' => Q .non G', rt := Q, ex := fun _ => E } (startF 5 ws) G := by
  unfold sp_ins at h
  split at h
  · rename_i s
    obtain ⟨ok, h1, h2⟩ := h
    have hl := ok.1
    have hsl := splitN_length (c := 32) s
    unfold insF at h1 h2
    simp only [rd_instruction_in, startF, sSeq, sSet, sRet, sRetN, sIf, sNext, sDrop, sAsg, sAug, sBrk, sCnt, sThrow, sFld, sFldAug, sPutA, sDput, sFor, iVal, iRng1, iRng2, tV, tTru, tAnd, tOr, tNot, eVar, eC, eOp, eUn, eIf, eAnd, eOr, eNot, eCh, eCh3, eCall, eBlt, eMet, eMakeX, eCallV, eFld, asIns, eTup, eLst, eDnewT, eDnew, eBm, tyW, aCons, aNil, aCs, eSl, oNo, oPart, eDget1, eDget2, eDpop1, eDpop2, eDsetd, isDW, isDM, popK, popD, dictOf, rAt, rIx, rDget, rInD, rNotInD, rInB, rIn, rNotIn, rInA, rEq, rNe, eqA, rLt, rLe, rGt, rGe, rIs, rIsNot, rIsL, rIsLN, rAdd, rSub, rMod, rNeg, rIadd, rSl, isN_non, isN_bl, isN_int, isN_str, isN_ref, isN_tup, gName, gTup, gCons, gNil, truth, bLen, bAbs, bMin, bMax, bInt, bSum, bTuple, bList, bIsi, clsN, mAppend, mPop, get_zero, get_succ, put_zero, put_succ, del_zero, del_succ, nthW_zero, nthW_succ, setF_nil, setF_zero, setF_succ, Option.map_some, List.getElem?_cons_zero, List.getElem?_cons_succ, List.map_cons, List.map_nil, List.cons_append, List.nil_append, List.length_cons, List.length_nil, List.replicate, Bool.not_true, Bool.not_false, Bool.false_eq_true, if_false, if_true, mSplit, eKget]
    refine ⟨trivial, by decide, by simp only [SZ]; omega, fun p hp => ?_⟩
    simp only [up_same]
    cases hw : splitN 32 s with
    | nil => exact absurd hw (splitN_ne 32 s)
    | cons w ws =>
      rw [hw] at h1 h2 hsl
      simp only [insW] at h1 h2
      rw [List.length_cons] at hsl
      have a0 : at_ ((w :: ws).map W.str) 0 = some (.str w) := at_nat (i := 0) rfl
      simp only [a0]
      cases hk : lookS kd_SHAPES w with
      | none =>
        rw [hk] at h2
        simp only [Option.getD, isN, if_true]
        exact h2 rfl _ (.up hp)
      | some v =>
        obtain ⟨ss, rfl, hss⟩ := shapes_kt hk
        simp only [hk, strsW_map] at h1 h2
        simp only [Option.getD, isN, Bool.false_eq_true, if_false, List.length_map]
        have hlen : ((w :: ws).length : Int) - 1 = (ws.length : Nat) := by simp
        rw [hlen]
        by_cases c1 : ss.length = ws.length
        · rw [if_neg (by simp [c1])]
          rw [if_pos c1] at h1 h2
          refine ⟨by decide, ?_⟩
          simp only [eLcX, iZipG, eSl, oPart, oNo, eVar, eC, aCons, aNil, get_zero, get_succ, rSl, up_same]
          intro p2 hp2
          have hcut : cut ((w :: ws).map W.str) (some 1) none = ws.map W.str := by
            exact cut_from_ _ 1
          have n2 : p2 ≠ p := (free_up hp2).1
          refine ⟨rfl, rfl, ws.map W.str, ss.map W.str, by simp only [items, up_same, hcut], rfl, ?_⟩
          have le2 : Le G (up (up G p (.lst ((w :: ws).map W.str))) p2 (.lst (cut ((w :: ws).map W.str) (some 1) none))) := (Le.up hp).trans (.up hp2)
          refine lcx_run (f := itF) (C := .ref C) (all := List.zipWith (fun a b => W.tup [a, b]) (ws.map W.str) (ss.map W.str)) (fun G' l => gitems_eq (by simp only [items, l _ _ up_same, hcut]) rfl) ?_ ?_ ?_ ?_
          · simp only [List.length_zipWith, List.length_map, SZ]; omega
          · intro z hz G' K l k1 k2
            obtain ⟨a, b, ha, rfl⟩ : ∃ a b, a ∈ ws ∧ z = .tup [.str a, .str b] := by
              obtain ⟨i, hi, rfl⟩ := List.mem_iff_getElem.mp hz
              simp only [List.length_zipWith, List.length_map] at hi
              exact ⟨ws[i], ss[i], List.getElem_mem _, by simp⟩
            simp only [gTup, gCons, gName, gNil, wipe_cons, wipe_nil, startF, sSeq, sSet, sRet, sRetN, sIf, sNext, sDrop, sAsg, sAug, sBrk, sCnt, sThrow, sFld, sFldAug, sPutA, sDput, sFor, iVal, iRng1, iRng2, tV, tTru, tAnd, tOr, tNot, eVar, eC, eOp, eUn, eIf, eAnd, eOr, eNot, eCh, eCh3, eCall, eBlt, eMet, eMakeX, eCallV, eFld, asIns, eTup, eLst, eDnewT, eDnew, eBm, tyW, aCons, aNil, aCs, eSl, oNo, oPart, eDget1, eDget2, eDpop1, eDpop2, eDsetd, isDW, isDM, popK, popD, dictOf, rAt, rIx, rDget, rInD, rNotInD, rInB, rIn, rNotIn, rInA, rEq, rNe, eqA, rLt, rLe, rGt, rGe, rIs, rIsNot, rIsL, rIsLN, rAdd, rSub, rMod, rNeg, rIadd, rSl, isN_non, isN_bl, isN_int, isN_str, isN_ref, isN_tup, gName, gTup, gCons, gNil, truth, bLen, bAbs, bMin, bMax, bInt, bSum, bTuple, bList, bIsi, clsN, mAppend, mPop, get_zero, get_succ, put_zero, put_succ, del_zero, del_succ, nthW_zero, nthW_succ, setF_nil, setF_zero, setF_succ, Option.map_some, List.getElem?_cons_zero, List.getElem?_cons_succ, List.map_cons, List.map_nil, List.cons_append, List.nil_append, List.length_cons, List.length_nil, List.replicate, Bool.not_true, Bool.not_false, Bool.false_eq_true, if_false, if_true]
            refine ⟨trivial, trivial, okS_sub (c := 32) ok (by rw [hw]; simp [ha]), k1, k2⟩
          · intro hn G' l
            rw [itF_all] at hn
            exact h2 (by rw [hn]; rfl) _ (le2.trans l)
          · intro p3 us G' hu hp3 l e3
            rw [itF_all] at hu
            simp only [bTuple, e3, rAdd, List.cons_append, List.nil_append]
            have := itemsF_len hu
            exact ⟨by simp only [List.length_cons, List.length_nil, SZ]; omega, h1 _ (by rw [hu]; rfl) _ (le2.trans l)⟩
        · rw [if_pos (by simp; omega)]
          rw [if_neg c1] at h2
          exact h2 rfl _ (.up hp)
  · exact h.elim
theorem insL_all : ∀ ls : List (List Nat), allM (fun w => match w with | .str a => insF a | _ => none) (ls.map W.str) = insL ls
  | [] => rfl
  | l :: r => by
    show (match insF l with | some x => (allM (fun w => match w with | .str a => insF a | _ => none) (r.map W.str)).map (x :: ·) | none => none) = _
    rw [insL_all r]
    rfl
theorem insL_len : ∀ {ls : List (List Nat)} {us : List W}, insL ls = some us → us.length = ls.length
  | [], us, h => by cases h; rfl
  | l :: r, us, h => by
    unfold insL at h
    split at h
    · cases q : insL r with
      | none => rw [q] at h; cases h
      | some vs =>
        rw [q] at h
        cases h
        have := insL_len q
        simp only [List.length_cons]; omega
    · cases h
theorem vc_parse (C : Nat) (ws : List W) (G : Gh) (Q : QV) (E : XQ) (fg : Fgt Q E) (h : sp_parse C ws G Q E) : rd_parse_code C (sp_num C) (sp_ins C) { nx := fun _ G' => Q .non G', rt := Q, ex := fun _ => E } (startF 3 ws) G := by
  unfold sp_parse at h
  split at h
  · rename_i s
    obtain ⟨ok, h1, h2⟩ := h
    have hl := ok.1
    have hsl := splitN_length (c := 10) s
    unfold parseF parseL at h1 h2
    simp only [rd_parse_code, startF, sSeq, sSet, sRet, sRetN, sIf, sNext, sDrop, sAsg, sAug, sBrk, sCnt, sThrow, sFld, sFldAug, sPutA, sDput, sFor, iVal, iRng1, iRng2, tV, tTru, tAnd, tOr, tNot, eVar, eC, eOp, eUn, eIf, eAnd, eOr, eNot, eCh, eCh3, eCall, eBlt, eMet, eMakeX, eCallV, eFld, asIns, eTup, eLst, eDnewT, eDnew, eBm, tyW, aCons, aNil, aCs, eSl, oNo, oPart, eDget1, eDget2, eDpop1, eDpop2, eDsetd, isDW, isDM, popK, popD, dictOf, rAt, rIx, rDget, rInD, rNotInD, rInB, rIn, rNotIn, rInA, rEq, rNe, eqA, rLt, rLe, rGt, rGe, rIs, rIsNot, rIsL, rIsLN, rAdd, rSub, rMod, rNeg, rIadd, rSl, isN_non, isN_bl, isN_int, isN_str, isN_ref, isN_tup, gName, gTup, gCons, gNil, truth, bLen, bAbs, bMin, bMax, bInt, bSum, bTuple, bList, bIsi, clsN, mAppend, mPop, get_zero, get_succ, put_zero, put_succ, del_zero, del_succ, nthW_zero, nthW_succ, setF_nil, setF_zero, setF_succ, Option.map_some, List.getElem?_cons_zero, List.getElem?_cons_succ, List.map_cons, List.map_nil, List.cons_append, List.nil_append, List.length_cons, List.length_nil, List.replicate, Bool.not_true, Bool.not_false, Bool.false_eq_true, if_false, if_true, mSplit]
    refine ⟨trivial, by decide, by simp only [SZ]; omega, fun p hp => ?_⟩
    simp only [up_same, List.length_map]
    by_cases c1 : (splitN 10 s).length < 3
    · rw [if_pos (decide_eq_true (by omega))]
      rw [if_pos (.inl c1)] at h2
      exact h2 rfl _ (.up hp)
    rw [if_neg (by simp; omega)]
    obtain ⟨ls, hls⟩ : ∃ ls, splitN 10 s = ls := ⟨_, rfl⟩
    rw [hls] at h1 h2 hsl c1 ⊢
    obtain ⟨z, hz⟩ : ∃ z, ls.getLast? = some z := by
      cases q : ls.getLast? with
      | none => rw [List.getLast?_eq_none_iff] at q; subst q; simp at c1
      | some z => exact ⟨z, rfl⟩
    obtain ⟨a, r, rfl⟩ := List.exists_cons_of_ne_nil (l := ls) (by rintro rfl; simp at c1)
    have az : at_ ((a :: r).map W.str) (-1) = some (.str z) := by
      obtain ⟨q, hq⟩ := List.getLast?_eq_some_iff.mp hz
      rw [hq, List.map_append]
      exact at_last _ _
    have a0 : at_ ((a :: r).map W.str) 0 = some (.str a) := at_nat (i := 0) rfl
    have ha : okS a := okS_sub (c := 10) ok (by rw [hls]; simp)
    have hha := ha.1
    simp only [az, a0]
    by_cases c2 : z = []
    rotate_left
    · rw [if_pos (by simpa using c2)]
      rw [if_pos (.inr (.inl (by rw [hz]; simpa using c2)))] at h2
      exact h2 rfl _ (.up hp)
    rw [if_neg (by simpa using c2)]
    have hc5 : cut a none (some 5) = a.take 5 := cut_to_ a 5
    have hd5 : cut a (some 5) none = a.drop 5 := cut_from_ a 5
    refine ⟨by simp only [SZ]; omega, ?_⟩
    rw [hc5, hd5]
    by_cases c3 : a.take 5 = cCode
    rotate_left
    · rw [if_pos (by simpa [cCode] using c3)]
      rw [if_pos (.inr (.inr c3))] at h2
      exact h2 rfl _ (.up hp)
    rw [if_neg (by simpa [cCode] using c3)]
    have ng : ¬ ((a :: r).length < 3 ∨ (a :: r).getLast? ≠ some [] ∨ ((a :: r).headD []).take 5 ≠ cCode) := by
      rintro (q | q | q)
      · exact c1 q
      · exact q (by rw [hz, c2])
      · exact q c3
    rw [if_neg ng] at h1 h2
    simp only [List.headD_cons] at h1 h2
    refine ⟨by simp only [SZ]; omega, by rw [List.length_drop]; omega, fun n hn G1 l1 => ?_, fun hn G1 l1 => ?_⟩
    rotate_left
    · rw [hn] at h2
      exact h2 rfl _ ((Le.up hp).trans l1)
    rw [hn] at h1 h2
    simp only at h1 h2
    have e1 : G1 p = some (.lst ((a :: r).map W.str)) := l1 _ _ up_same
    simp only [eLcX, iVal, eSl, oPart, oNo, eUn, rNeg, eVar, eC, get_zero, get_succ, rSl, e1]
    intro p2 hp2
    have hcut : cut ((a :: r).map W.str) (some 1) (some (-1)) = (((a :: r).tail.dropLast).map W.str) := by
      rw [cut_inner _ (by simp only [List.length_map]; omega), ← List.map_tail, List.map_dropLast]
    refine ⟨by simp only [items, up_same]; rfl, ?_⟩
    have le2 : Le G (up G1 p2 (.lst (cut ((a :: r).map W.str) (some 1) (some (-1))))) := ((Le.up hp).trans l1).trans (.up hp2)
    have hll : (a :: r).length ≤ 100001 := by omega
    refine lcx_run (f := fun w => match w with | .str a => insF a | _ => none) (C := .ref C) (all := ((a :: r).tail.dropLast).map W.str) (fun G' l => by simp only [items, l _ _ up_same, hcut]) ?_ ?_ ?_ ?_
    · simp only [List.length_map, List.length_dropLast, List.length_tail, SZ]; omega
    · intro w hw G' K l k1 k2
      obtain ⟨b, hb, rfl⟩ := List.mem_map.mp hw
      simp only [startF, sSeq, sSet, sRet, sRetN, sIf, sNext, sDrop, sAsg, sAug, sBrk, sCnt, sThrow, sFld, sFldAug, sPutA, sDput, sFor, iVal, iRng1, iRng2, tV, tTru, tAnd, tOr, tNot, eVar, eC, eOp, eUn, eIf, eAnd, eOr, eNot, eCh, eCh3, eCall, eBlt, eMet, eMakeX, eCallV, eFld, asIns, eTup, eLst, eDnewT, eDnew, eBm, tyW, aCons, aNil, aCs, eSl, oNo, oPart, eDget1, eDget2, eDpop1, eDpop2, eDsetd, isDW, isDM, popK, popD, dictOf, rAt, rIx, rDget, rInD, rNotInD, rInB, rIn, rNotIn, rInA, rEq, rNe, eqA, rLt, rLe, rGt, rGe, rIs, rIsNot, rIsL, rIsLN, rAdd, rSub, rMod, rNeg, rIadd, rSl, isN_non, isN_bl, isN_int, isN_str, isN_ref, isN_tup, gName, gTup, gCons, gNil, truth, bLen, bAbs, bMin, bMax, bInt, bSum, bTuple, bList, bIsi, clsN, mAppend, mPop, get_zero, get_succ, put_zero, put_succ, del_zero, del_succ, nthW_zero, nthW_succ, setF_nil, setF_zero, setF_succ, Option.map_some, List.getElem?_cons_zero, List.getElem?_cons_succ, List.map_cons, List.map_nil, List.cons_append, List.nil_append, List.length_cons, List.length_nil, List.replicate, Bool.not_true, Bool.not_false, Bool.false_eq_true, if_false, if_true, wipe_cons, wipe_nil]
      exact ⟨okS_sub (c := 10) ok (by rw [hls]; exact List.mem_of_mem_tail (List.dropLast_subset _ hb)), k1, k2⟩
    · intro hn G' l
      rw [insL_all] at hn
      exact h2 (by rw [hn]; rfl) _ (le2.trans l)
    · intro p3 us G' hu hp3 l e3
      rw [insL_all] at hu
      simp only [bTuple, e3]
      exact ⟨by decide, h1 _ (by rw [hu]; rfl) _ (le2.trans l)⟩
  · exact h.elim
theorem vc_refused (C : Nat) (ws : List W) (G : Gh) (Q : QV) (E : XQ) (fg : Fgt Q E) (h : sp_refused ws G Q E) : rd_law_is_refused C (sp_parse C) { nx := fun _ G' => Q .non G', rt := Q, ex := fun _ => E } (startF 1 ws) G := by
  unfold sp_refused at h
  split at h
  · rename_i s
    obtain ⟨ok, hn, k⟩ := h
    simp only [rd_law_is_refused, startF, sSeq, sSet, sRet, sRetN, sIf, sNext, sDrop, sAsg, sAug, sBrk, sCnt, sThrow, sFld, sFldAug, sPutA, sDput, sFor, iVal, iRng1, iRng2, tV, tTru, tAnd, tOr, tNot, eVar, eC, eOp, eUn, eIf, eAnd, eOr, eNot, eCh, eCh3, eCall, eBlt, eMet, eMakeX, eCallV, eFld, asIns, eTup, eLst, eDnewT, eDnew, eBm, tyW, aCons, aNil, aCs, eSl, oNo, oPart, eDget1, eDget2, eDpop1, eDpop2, eDsetd, isDW, isDM, popK, popD, dictOf, rAt, rIx, rDget, rInD, rNotInD, rInB, rIn, rNotIn, rInA, rEq, rNe, eqA, rLt, rLe, rGt, rGe, rIs, rIsNot, rIsL, rIsLN, rAdd, rSub, rMod, rNeg, rIadd, rSl, isN_non, isN_bl, isN_int, isN_str, isN_ref, isN_tup, gName, gTup, gCons, gNil, truth, bLen, bAbs, bMin, bMax, bInt, bSum, bTuple, bList, bIsi, clsN, mAppend, mPop, get_zero, get_succ, put_zero, put_succ, del_zero, del_succ, nthW_zero, nthW_succ, setF_nil, setF_zero, setF_succ, Option.map_some, List.getElem?_cons_zero, List.getElem?_cons_succ, List.map_cons, List.map_nil, List.cons_append, List.nil_append, List.length_cons, List.length_nil, List.replicate, Bool.not_true, Bool.not_false, Bool.false_eq_true, if_false, if_true, sTry, sp_parse]
    exact ⟨ok, fun n z => (by rw [hn] at z; cases z), fun _ G' l => ⟨trivial, trivial, k _ l⟩⟩
  · exact h.elim

/-! ### a drawn item of a written list -/
theorem at_mem {α : Type} {xs : List α} {i : Int} (h0 : 0 ≤ i) (h1 : i < xs.length) : ∃ x ∈ xs, at_ xs i = some x := by
  have hl : i.toNat < xs.length := by omega
  exact ⟨_, List.getElem_mem hl, at_int h0 (List.getElem?_eq_getElem hl)⟩
theorem pick_ok {xs : List W} {n : Int} {i t c : Nat} {γ : Fr} {G : Gh} {E : XQ} {Q : QV} (hv : get γ i = some (.ref t)) (T : Tape G t c) (hn : (xs.length : Int) = n) (h0 : 0 < n) (h1 : n < 1000000)
    (k : ∀ x ∈ xs, ∀ G', Tape G' t c → KeepBut t G G' → Q x G') : eOp rAt (eLst (aCs xs)) (eCall sp_take (aCons (eVar i) (aCons (eC (.int n)) (aNil)))) γ G E Q := by
  simp only [eOp, eLst, aCs, eCall, aCons, aNil, eVar, eC, hv]
  refine ⟨by simp only [SZ]; omega, fun p hp => ?_⟩
  have T1 := T.new (o := .lst xs) hp
  refine ⟨c, T1, h0, by omega, fun d o d0 d1 T2 => ?_⟩
  obtain ⟨x, hx, ex⟩ := at_mem (xs := xs) d0 (by omega)
  simp only [rAt, up_ne (T.free hp).1, up_same, ex]
  exact k x hx _ T2 ((KeepBut.new hp).trans .tape)
/-- a number below n -/
theorem take_ok {n : Int} {i t c : Nat} {γ : Fr} {G : Gh} {E : XQ} {Q : QV} (hv : get γ i = some (.ref t)) (T : Tape G t c) (h0 : 0 < n) (h1 : n < 1000000)
    (k : ∀ d : Int, 0 ≤ d → d < n → ∀ G', Tape G' t c → KeepBut t G G' → Q (.int d) G') : eCall sp_take (aCons (eVar i) (aCons (eC (.int n)) (aNil))) γ G E Q := by
  simp only [eCall, aCons, aNil, eVar, eC, hv]
  exact ⟨c, T, h0, by omega, fun d o d0 d1 T2 => k d d0 d1 _ T2 .tape⟩
/-- [draw(tape) for j in range(n)] -/
theorem draws_ok {P : W → Prop} {n : Nat} {i j t c : Nat} {vs : List Nat} {γ : Fr} {G : Gh} {Q : QV} (T : Tape G t c) (hn : n ≤ 1000) (hv : ∀ w, get (put (wipe γ vs) j w) i = some (.ref t))
    (k : ∀ ws G' p, ws.length = n → (∀ w ∈ ws, P w) → Tape G' t c → KeepBut t G G' → G p = none → G' p = some (.lst ws) → Q (.ref p) G') :
    ∀ D, G D = none → ∃ all, (fun _ => some (rangeW 0 n)) (up G D (.lst [])) = some all ∧ lcL (fun _ => some (rangeW 0 n)) all (gName j) tYes (eCall (sp_draw P) (aCons (eVar i) (aNil))) (wipe γ vs) D X0 Q all [] (up G D (.lst [])) := by
  intro D hD
  refine ⟨rangeW 0 n, rfl, ?_⟩
  have hDt := (T.free hD).1
  refine lcL_ind (fun r acc G' => acc.length + r.length = n ∧ (∀ w ∈ acc, P w) ∧ Tape G' t c ∧ KeepBut t G G' ∧ G' D = some (.lst acc)) (fun r acc G' h => ⟨rfl, h.2.2.2.2⟩) ?_ ?_ _ _ _ ⟨by simp [rangeW_length], fun w hw => (by cases hw), T.new hD, .new hD, up_same⟩
  · rintro acc G' ⟨h1, h2, h3, h4, h5⟩
    exact k acc G' D (by simpa using h1) h2 h3 h4 hD h5
  · rintro w r acc G' ⟨h1, h2, h3, h4, h5⟩ F hF
    simp only [gName, tYes, if_true, eCall, aCons, aNil, eVar, hv]
    rw [List.length_cons] at h1
    refine ⟨c, h3, fun y o hy T2 => ?_⟩
    have e1 : up G' t o D = some (.lst acc) := (up_ne hDt).trans h5
    refine ⟨e1, by simp only [SZ]; omega, hF _ _ ⟨by simp; omega, fun z hz => ?_, T2.upd hDt (T.free hD).2, (h4.trans .tape).upd hD, up_same⟩⟩
    rcases List.mem_append.mp hz with hz | hz
    · exact h2 z hz
    · rw [List.mem_singleton.mp hz]; exact hy

def strI : W → List Nat
  | .int i => decI i
  | .str a => a
  | .bl b => if b = true then [84, 114, 117, 101] else [70, 97, 108, 115, 101]
  | _ => []
def strOkB : W → Bool
  | .int i => decide (i.natAbs.log2 < 1920)
  | .str _ => true
  | .bl _ => true
  | _ => false
def rowTxt (ws : List W) : List Nat := joinN [32] (ws.map strI)
def numsL : List Int := [0, 1, 9, 10, 4294967295]
def namesL : List (List Nat) := [[97], [66, 57, 95], [120, 49]]
def allRows : List (List W) :=
  (numsL.map fun n => [.str [112, 117, 115, 104], .int n]) ++ ([[.str [112, 117, 115, 104], .bl true], [.str [112, 117, 115, 104], .bl false]] ++ ((numsL.map fun n => [.str [108, 111, 97, 100], .int n]) ++
  ((numsL.map fun n => [.str [115, 116, 111, 114, 101], .int n]) ++ ((signsC.map fun n => [.str [115, 105, 103, 110], .str n]) ++ ([[.str [110, 111, 116]], [.str [109, 105, 110, 117, 115]]] ++ ((numsL.map fun n => [.str [106, 117, 109, 112], .int n]) ++
  ((numsL.map fun n => [.str [117, 110, 108, 101, 115, 115], .int n]) ++ ((namesL.flatMap fun a => numsL.map fun n => [.str [109, 97, 107, 101], .str a, .str [68], .int n]) ++ ((namesL.map fun a => [.str [102, 105, 101, 108, 100], .str a]) ++
  ((namesL.flatMap fun a => numsL.map fun n => [.str [99, 97, 108, 108], .str a, .int n, .int 2]) ++ (namesL.flatMap fun a => numsL.map fun n => [.str [109, 101, 116, 104, 111, 100], .str a, .int 0, .int n])))))))))))
def eqFl : W → W → Bool
  | .int i, .int j => decide (i = j)
  | .str a, .str b => decide (a = b)
  | .bl a, .bl b => a == b
  | _, _ => false
theorem eqFl_ok : ∀ {x y : W}, eqFl x y = true → x = y := by
  intro x y h
  cases x <;> cases y <;> simp only [eqFl, Bool.false_eq_true, decide_eq_true_eq, beq_iff_eq] at h <;> (subst h; rfl)
def eqFls : List W → List W → Bool
  | [], [] => true
  | x :: xs, y :: ys => eqFl x y && eqFls xs ys
  | _, _ => false
theorem eqFls_ok : ∀ {x y : List W}, eqFls x y = true → x = y
  | [], [], _ => rfl
  | x :: xs, y :: ys, h => by
    simp only [eqFls, Bool.and_eq_true] at h
    rw [eqFl_ok h.1, eqFls_ok h.2]
  | [], _ :: _, h => by cases h
  | _ :: _, [], h => by cases h
def rowB (ws : List W) : Bool :=
  ws.all strOkB && (match insF (rowTxt ws) with | some (.tup us) => eqFls us ws | _ => false) && decide (10 ∉ rowTxt ws) && decide ((rowTxt ws).take 5 ≠ cCode) && decide (rowTxt ws ≠ []) && decide ((rowTxt ws).length ≤ 60) && (rowTxt ws).all (fun c => decide (c < 128)) && ws.all flatW && decide (ws.length ≤ 4) && decide (joinLen [32] (ws.map strI) ≤ 100)
theorem rows_ok : allRows.all rowB = true := by decide +kernel
theorem row_facts {ws : List W} (h : ws ∈ allRows) : (∀ w ∈ ws, strOkB w = true) ∧ insF (rowTxt ws) = some (.tup ws) ∧ 10 ∉ rowTxt ws ∧ (rowTxt ws).take 5 ≠ cCode ∧ rowTxt ws ≠ [] ∧ (rowTxt ws).length ≤ 60 ∧ (∀ c ∈ rowTxt ws, c < 128) ∧ (∀ w ∈ ws, flatW w = true) ∧ ws.length ≤ 4 ∧ joinLen [32] (ws.map strI) ≤ 100 := by
  have q := List.all_eq_true.mp rows_ok ws h
  unfold rowB at q
  simp only [Bool.and_eq_true, decide_eq_true_eq] at q
  obtain ⟨⟨⟨⟨⟨⟨⟨⟨⟨q1, q2⟩, q3⟩, q4⟩, q5⟩, q6⟩, q7⟩, q8⟩, q9⟩, q10⟩ := q
  refine ⟨fun w hw => List.all_eq_true.mp q1 w hw, ?_, q3, q4, q5, q6, fun c hc => of_decide_eq_true (List.all_eq_true.mp q7 c hc), fun w hw => List.all_eq_true.mp q8 w hw, q9, q10⟩
  split at q2
  · rename_i us e
    rw [e, eqFls_ok q2]
  · cases q2
def rowsW (n : Int) (b : Bool) (sg a : List Nat) : List W := [.tup [.str [112, 117, 115, 104], .int n], .tup [.str [112, 117, 115, 104], .bl b], .tup [.str [108, 111, 97, 100], .int n], .tup [.str [115, 116, 111, 114, 101], .int n], .tup [.str [115, 105, 103, 110], .str sg],
      .tup [.str [110, 111, 116]], .tup [.str [109, 105, 110, 117, 115]], .tup [.str [106, 117, 109, 112], .int n], .tup [.str [117, 110, 108, 101, 115, 115], .int n], .tup [.str [109, 97, 107, 101], .str a, .str [68], .int n], .tup [.str [102, 105, 101, 108, 100], .str a],
      .tup [.str [99, 97, 108, 108], .str a, .int n, .int 2], .tup [.str [109, 101, 116, 104, 111, 100], .str a, .int 0, .int n]]
theorem rowsW_ok {n : Int} {b : Bool} {sg a : List Nat} (hn : n ∈ numsL) (ha : a ∈ namesL) (hs : sg ∈ signsC) : ∀ x ∈ rowsW n b sg a, ∃ ws ∈ allRows, x = .tup ws := by
  unfold rowsW
  have key : ∀ ws : List W, ws ∈ allRows → ∃ us ∈ allRows, W.tup ws = .tup us := fun ws h => ⟨ws, h, rfl⟩
  have hb : b = true ∨ b = false := by cases b <;> simp
  repeat (first | exact List.forall_mem_nil _ | (refine List.forall_mem_cons.mpr ⟨key _ (by unfold allRows; simp [hn, ha, hs, hb]), ?_⟩))
def sp_row : Sp := sp_draw fun w => ∃ ws ∈ allRows, w = .tup ws
theorem mono_row : Mono sp_row := mono_draw _
theorem len_row : ∀ ws G Q E, sp_row ws G Q E → ws.length = 1 := len_draw _
theorem vc_row (ws : List W) (G : Gh) (Q : QV) (E : XQ) (fg : Fgt Q E) (h : sp_row ws G Q E) : rd_law_row sp_take { nx := fun _ G' => Q .non G', rt := Q, ex := fun _ => E } (startF 4 ws) G := by
  unfold sp_row sp_draw at h
  split at h
  · rename_i t
    obtain ⟨c, T, k⟩ := h
    unfold rd_law_row
    simp only [startF, sSeq, sSet, List.map_cons, List.map_nil, List.cons_append, List.nil_append, List.length_cons, List.length_nil, List.replicate]
    refine pick_ok (t := t) (c := c) rfl T rfl (by decide) (by decide) fun x hx G1 T1 K1 => ?_
    obtain ⟨n, hn, rfl⟩ := List.mem_map.mp (show x ∈ numsL.map W.int from hx)
    refine pick_ok (t := t) (c := c) rfl T1 rfl (by decide) (by decide) fun x hx G2 T2 K2 => ?_
    obtain ⟨a, ha, rfl⟩ := List.mem_map.mp (show x ∈ namesL.map W.str from hx)
    have e1 : ∀ {e : TE} {γ : Fr} {G : Gh} {E : XQ} {r : TA} {Q : List W → Gh → Prop}, e γ G E (fun x G1 => r γ G1 E fun xs G2 => Q (x :: xs) G2) → aCons e r γ G E Q := fun h => h
    have e1c : ∀ {w : W} {γ : Fr} {G : Gh} {E : XQ} {r : TA} {Q : List W → Gh → Prop}, (r γ G E fun xs G2 => Q (w :: xs) G2) → aCons (eC w) r γ G E Q := fun h => h
    have e4 : ∀ {a : TA} {γ : Fr} {G : Gh} {E : XQ} {Q : QV}, (a γ G E fun ws G1 => ws.length ≤ SZ ∧ ∀ p, G1 p = none → Q (.ref p) (up G1 p (.lst ws))) → eLst a γ G E Q := fun h => h
    have e2 : ∀ {a : TA} {γ : Fr} {G : Gh} {E : XQ} {Q : QV}, (a γ G E fun ws G1 => ws.length ≤ SZ ∧ Q (.tup ws) G1) → eTup a γ G E Q := fun h => h
    have e3 : ∀ {r : R2} {a b : TE} {γ : Fr} {G : Gh} {E : XQ} {Q : QV}, (a γ G E fun x G1 => b γ G1 E fun y G2 => r x y G2 Q) → eOp r a b γ G E Q := fun h => h
    have s1 : ∀ n, n ≤ 20 → n ≤ SZ := fun n h => by simp only [SZ]; omega
    simp only [put_zero, put_succ, sRet]
    show eLst _ _ _ _ _
    refine e4 ?_
    refine e1 (e2 ⟨s1 2 (by decide), ?_⟩)
    refine e1 (e2 (e1c (e1 (e3 ?_))))
    refine take_ok (t := t) (c := c) rfl T2 (by decide) (by decide) fun d _ _ G3 T3 K3 => ?_
    refine ⟨s1 2 (by decide), ?_⟩
    refine e1 (e2 ⟨s1 2 (by decide), ?_⟩)
    refine e1 (e2 ⟨s1 2 (by decide), ?_⟩)
    refine e1 (e2 (e1c (e1 ?_)))
    refine pick_ok (t := t) (c := c) rfl T3 rfl (by decide) (by decide) fun x hx G4 T4 K4 => ?_
    obtain ⟨sg, hsg, rfl⟩ := List.mem_map.mp (show x ∈ signsC.map W.str from hx)
    refine ⟨s1 2 (by decide), ?_⟩
    refine e1 (e2 ⟨s1 1 (by decide), ?_⟩)
    refine e1 (e2 ⟨s1 1 (by decide), ?_⟩)
    refine e1 (e2 ⟨s1 2 (by decide), ?_⟩)
    refine e1 (e2 ⟨s1 2 (by decide), ?_⟩)
    refine e1 (e2 ⟨s1 4 (by decide), ?_⟩)
    refine e1 (e2 ⟨s1 2 (by decide), ?_⟩)
    refine e1 (e2 ⟨s1 4 (by decide), ?_⟩)
    refine e1 (e2 ⟨s1 4 (by decide), ?_⟩)
    refine ⟨s1 13 (by decide), fun p hp => ?_⟩
    have T5 := T4.new (o := .lst (rowsW n (decide (d = 0)) sg a)) hp
    refine e3 ?_
    refine take_ok (t := t) (c := c) rfl T5 (by decide) (by decide) fun d' d0 d1 G6 T6 K6 => ?_
    have e6 : G6 p = some (.lst (rowsW n (decide (d = 0)) sg a)) := K6 p _ (T4.free hp).1 up_same
    simp only [rAt, e6]
    obtain ⟨x, hx, ex⟩ := at_mem (xs := rowsW n (decide (d = 0)) sg a) d0 (by exact d1)
    rw [ex]
    exact tape_fin T T6 (((((K1.trans K2).trans K3).trans K4).trans (.new hp)).trans K6) fg fun o => k x o (rowsW_ok hn ha hsg x hx)
  · exact h.elim
/-! ### the text -/
def unl (ls : List (List Nat)) : List Nat := (ls.map (· ++ [10])).flatten
def headTxt (n : Int) : List Nat := cCode ++ decI n
def linesOf (n : Int) (rows : List (List W)) : List (List Nat) := headTxt n :: rows.map rowTxt
def codeTxt (n : Int) (rows : List (List W)) : List Nat := unl (linesOf n rows)
theorem strs_eq {ws : List W} (h : ∀ w ∈ ws, strOkB w = true) {γ : Fr} {i : Nat} {G : Gh} {E : XQ} {Q : QV} (w : W) (hw : w ∈ ws) (k : Q (.str (strI w)) G) : eBlt bStr (aCons (eVar i) (aNil)) (put γ i w) G E Q ∨ ¬ get (put γ i w) i = some w := by
  by_cases q : get (put γ i w) i = some w
  · refine .inl ?_
    simp only [eBlt, aCons, aNil, eVar, q]
    have := h w hw
    cases w with
    | int i => exact ⟨of_decide_eq_true this, k⟩
    | str a => exact k
    | bl b => exact k
    | _ => cases this
  · exact .inr q
def sp_format : Sp := fun ws G Q _ => match ws with
  | [.tup [.int n, .tup rs]] => ∃ rows : List (List W), rs = rows.map W.tup ∧ (∀ r ∈ rows, r ∈ allRows) ∧ 0 ≤ n ∧ n < 12 ∧ rows.length ≤ 10 ∧ ∀ G', Le G G' → Q (.str (codeTxt n rows)) G'
  | _ => False
theorem mono_format : Mono sp_format := by
  intro ws G Q Q' E E' hq he h
  unfold sp_format at h ⊢
  split at h
  · obtain ⟨rows, a, b, c, d, e, k⟩ := h
    exact ⟨rows, a, b, c, d, e, fun G' l => hq _ _ (k G' l)⟩
  · exact h.elim
theorem len_format : ∀ ws G Q E, sp_format ws G Q E → ws.length = 1 := by (intro ws G Q E h; unfold sp_format at h; (try split at h) <;> first | rfl | exact False.elim h)
theorem heads_ok : (List.range 12).all (fun n => decide (numF (decI (n : Nat)) = some ((n : Nat) : Int)) && decide ((headTxt (n : Nat)).length ≤ 10) && (headTxt (n : Nat)).all (fun c => decide (c < 128)) && decide (10 ∉ headTxt (n : Nat))) = true := by decide +kernel
theorem head_facts {n : Int} (h0 : 0 ≤ n) (h1 : n < 12) : numF (decI n) = some n ∧ (headTxt n).length ≤ 10 ∧ (∀ c ∈ headTxt n, c < 128) ∧ 10 ∉ headTxt n := by
  obtain ⟨m, rfl⟩ := Int.eq_ofNat_of_zero_le h0
  have q := List.all_eq_true.mp heads_ok m (by rw [List.mem_range]; omega)
  simp only [Bool.and_eq_true, decide_eq_true_eq] at q
  exact ⟨q.1.1.1, q.1.1.2, fun c hc => of_decide_eq_true (List.all_eq_true.mp q.1.2 c hc), q.2⟩
theorem row_join {ws : List W} (h : ws ∈ allRows) {ei : TE} {i : Nat} {vs : List Nat} {γ : Fr} {G : Gh} {E : XQ} {Q : QV} (hx : ∀ K : QV, K (.tup ws) G → ei γ G E K) (hg : ∀ w, get (put (wipe γ vs) i w) i = some w)
    (k : ∀ G', Le G G' → Q (.str (rowTxt ws)) G') : eBm "str" mJoin (eC (.str [32])) (aCons (eLc (iVal ei) (gName i) tYes (eBlt bStr (aCons (eVar i) (aNil))) vs) (aNil)) γ G E Q := by
  obtain ⟨f1, _, _, _, _, _, _, _, f9, f10⟩ := row_facts h
  simp only [eBm, eC, tyW, aCons, aNil]
  refine ⟨trivial, lc_val (x := .tup ws) (f := fun w => .str (strI w)) hx rfl (by simp only [SZ]; omega) (fun w hw G' K l kk => ?_) fun p hp => ?_⟩
  · rcases strs_eq f1 (γ := wipe γ vs) (i := i) (E := X0) w hw kk with q | q
    · exact q
    · exact absurd (hg w) q
  · have e : ws.map (fun w => W.str (strI w)) = (ws.map strI).map W.str := by rw [List.map_map]; rfl
    simp only [mJoin, up_same, e, strsW_map]
    exact ⟨by simp only [SZ]; omega, k _ (.up hp)⟩
theorem vc_format (ws : List W) (G : Gh) (Q : QV) (E : XQ) (fg : Fgt Q E) (h : sp_format ws G Q E) : rd_format_code { nx := fun _ G' => Q .non G', rt := Q, ex := fun _ => E } (startF 4 ws) G := by
  unfold sp_format at h
  split at h
  · rename_i n rs
    obtain ⟨rows, rfl, hr, n0, n1, hl, k⟩ := h
    obtain ⟨g1, g2, g3, g4⟩ := head_facts n0 n1
    have a0 : at_ [W.int n, W.tup (rows.map W.tup)] 0 = some (.int n) := rfl
    have a1 : at_ [W.int n, W.tup (rows.map W.tup)] 1 = some (.tup (rows.map W.tup)) := rfl
    simp only [rd_format_code, startF, sSeq, sSet, sRet, sRetN, sIf, sNext, sDrop, sAsg, sAug, sBrk, sCnt, sThrow, sFld, sFldAug, sPutA, sDput, sFor, iVal, iRng1, iRng2, tV, tTru, tAnd, tOr, tNot, eVar, eC, eOp, eUn, eIf, eAnd, eOr, eNot, eCh, eCh3, eCall, eBlt, eMet, eMakeX, eCallV, eFld, asIns, eTup, eLst, eDnewT, eDnew, eBm, tyW, aCons, aNil, aCs, eSl, oNo, oPart, eDget1, eDget2, eDpop1, eDpop2, eDsetd, isDW, isDM, popK, popD, dictOf, rAt, rIx, rDget, rInD, rNotInD, rInB, rIn, rNotIn, rInA, rEq, rNe, eqA, rLt, rLe, rGt, rGe, rIs, rIsNot, rIsL, rIsLN, rAdd, rSub, rMod, rNeg, rIadd, rSl, isN_non, isN_bl, isN_int, isN_str, isN_ref, isN_tup, gName, gTup, gCons, gNil, truth, bLen, bAbs, bMin, bMax, bInt, bSum, bTuple, bList, bIsi, clsN, mAppend, mPop, get_zero, get_succ, put_zero, put_succ, del_zero, del_succ, nthW_zero, nthW_succ, setF_nil, setF_zero, setF_succ, Option.map_some, List.getElem?_cons_zero, List.getElem?_cons_succ, List.map_cons, List.map_nil, List.cons_append, List.nil_append, List.length_cons, List.length_nil, List.replicate, Bool.not_true, Bool.not_false, Bool.false_eq_true, if_false, if_true, bStr, a0, a1]
    have hd : (cCode ++ decI n).length ≤ 10 := g2
    have hd2 : (cCode ++ decI n).length = [99, 111, 100, 101, 32].length + (decI n).length := List.length_append
    simp only [List.length_cons, List.length_nil] at hd2
    refine ⟨?_, by simp only [SZ]; omega, by simp only [SZ, List.length_cons, List.length_append]; omega, by decide, fun p hp => ⟨rfl, rows.map W.tup, rfl, ?_⟩⟩
    · have : n.natAbs.log2 ≤ n.natAbs := Nat.log2_le_self _
      omega
    refine forX_ind rows W.tup (fun i γ K => Le G K ∧ K p = some (.lst (((linesOf n (rows.take i)).map (· ++ [10])).map W.str)) ∧ ∃ y2 y3, γ = [some (.tup [.int n, .tup (rows.map W.tup)]), some (.ref p), y2, y3]) (fun i γ K _ _ => rfl) ?_ ?_ _ _ ⟨.up hp, up_same, _, _, rfl⟩
    · rintro γ K ⟨l, e1, y2, y3, rfl⟩
      rw [List.take_length] at e1
      simp only [sRet, eBm, eC, eVar, aCons, aNil, tyW, get_zero, get_succ, mJoin, e1, strsW_map]
      refine ⟨trivial, ?_⟩
      refine ⟨?_, by rw [joinN_flat]; exact k K l⟩
      unfold joinLen linesOf
      have hs := sum_len (ps := (headTxt n :: rows.map rowTxt).map (· ++ [10])) (n := 61) (fun q hq => by
        obtain ⟨z, hz, rfl⟩ := List.mem_map.mp hq
        rw [List.length_append]
        rcases List.mem_cons.mp hz with rfl | hz
        · simp only [List.length_cons, List.length_nil]; omega
        · obtain ⟨r, hr', rfl⟩ := List.mem_map.mp hz
          have := (row_facts (hr r hr')).2.2.2.2.2.1
          simp only [List.length_cons, List.length_nil]; omega)
      simp only [List.length_map, List.length_cons] at hs
      simp only [List.length_nil, Nat.zero_mul, SZ]; omega
    · rintro i r γ K hir ⟨l, e1, y2, y3, rfl⟩ F hF
      have hra := hr r (List.mem_of_getElem? hir)
      have hil := (List.getElem?_eq_some_iff.mp hir).1
      have e1' : ∀ G', Le K G' → G' p = some (.lst (((linesOf n (rows.take i)).map (· ++ [10])).map W.str)) := fun G' l' => l' _ _ e1
      simp only [gName, rd_format_code_b0, put_zero, put_succ]
      refine sDrop_i (eBm_i (x := .ref p) (fun K k => k) (by simp only [tyW, e1]) (aCons_i (eOp_i ?_)))
      refine row_join hra ?_ ?_ fun G' l' => ?_
      · exact fun K k => k
      · exact fun w => rfl
      simp only [aNil, eC, rAdd, mAppend, e1' G' l']
      refine ⟨?_, ?_, ?_⟩
      · have := (row_facts hra).2.2.2.2.2.1
        simp only [SZ, List.length_cons, List.length_nil]; omega
      · simp only [SZ, linesOf, List.length_map, List.length_cons, List.length_take]; omega
      · refine hF _ _ ⟨(l.trans l').upd hp, ?_, _, _, rfl⟩
        rw [up_same, List.take_add_one, hir]
        simp [linesOf]
  · exact h.elim

/-! ### the plain law -/
theorem split_unl : ∀ {ls : List (List Nat)}, (∀ l ∈ ls, 10 ∉ l) → splitN 10 (unl ls) = ls ++ [[]]
  | [], _ => rfl
  | l :: r, h => by
    have e : unl (l :: r) = l ++ 10 :: unl r := by simp [unl]
    rw [e, splitN_app (h l (by simp)), split_unl fun z hz => h z (by simp [hz])]
    rfl
theorem split_unl2 {z : List Nat} (hz : 10 ∉ z) : ∀ {ls : List (List Nat)}, (∀ l ∈ ls, 10 ∉ l) → splitN 10 (unl ls ++ z) = ls ++ [z]
  | [], _ => by simpa [unl] using splitN_no hz
  | l :: r, h => by
    have e : unl (l :: r) ++ z = l ++ 10 :: (unl r ++ z) := by simp [unl]
    rw [e, splitN_app (h l (by simp)), split_unl2 hz fun z hz => h z (by simp [hz])]
    rfl
theorem parse_unl {hd : List Nat} {rs : List (List Nat)} (h : ∀ l ∈ hd :: rs, 10 ∉ l) (hr : rs ≠ []) (h5 : hd.take 5 = cCode) : parseF (unl (hd :: rs)) = (match numF (hd.drop 5) with
    | some n => (insL rs).map fun rs => .tup [.int n, .tup rs]
    | none => none) := by
  unfold parseF
  rw [split_unl h]
  unfold parseL
  rw [if_neg]
  · simp <;> rfl
  · rintro (q | q | q)
    · cases rs with
      | nil => exact hr rfl
      | cons a b => simp at q; omega
    · exact q List.getLast?_concat
    · simp [h5] at q
theorem parse_head {hd : List Nat} {rs : List (List Nat)} (h : ∀ l ∈ hd :: rs, 10 ∉ l) (h5 : hd.take 5 ≠ cCode) : parseF (unl (hd :: rs)) = none := by
  unfold parseF
  rw [split_unl h]
  unfold parseL
  rw [if_pos (.inr (.inr (by simpa using h5)))]
theorem parse_cut {hd z : List Nat} {rs : List (List Nat)} (h : ∀ l ∈ hd :: rs, 10 ∉ l) (hz : 10 ∉ z) (hz2 : z ≠ []) : parseF (unl (hd :: rs) ++ z) = none := by
  unfold parseF
  rw [split_unl2 hz h]
  unfold parseL
  rw [if_pos (.inr (.inl (by rw [List.getLast?_concat]; simpa using hz2)))]
theorem insL_bad {l : List Nat} (hl : insF l = none) : ∀ rs : List (List Nat), insL (rs ++ [l]) = none
  | [] => by simp [insL, hl]
  | r :: rs => by
    rw [List.cons_append]
    unfold insL
    rw [insL_bad hl rs]
    split <;> rfl
theorem insL_rows : ∀ {rows : List (List W)}, (∀ r ∈ rows, r ∈ allRows) → insL (rows.map rowTxt) = some (rows.map W.tup)
  | [], _ => rfl
  | r :: rs, h => by
    rw [List.map_cons]
    unfold insL
    rw [(row_facts (h r (by simp))).2.1, insL_rows fun z hz => h z (by simp [hz])]
    rfl
section
variable {n : Int} {rows : List (List W)}
theorem lines_no (n0 : 0 ≤ n) (n1 : n < 12) (hr : ∀ r ∈ rows, r ∈ allRows) : ∀ l ∈ linesOf n rows, 10 ∉ l := fun l hl => by
  rcases List.mem_cons.mp hl with rfl | hl
  · exact (head_facts n0 n1).2.2.2
  · obtain ⟨r, hr', rfl⟩ := List.mem_map.mp hl
    exact (row_facts (hr r hr')).2.2.1
theorem head5 : (headTxt n).take 5 = cCode ∧ (headTxt n).drop 5 = decI n := ⟨rfl, rfl⟩
theorem parse_code_ok (n0 : 0 ≤ n) (n1 : n < 12) (hr : ∀ r ∈ rows, r ∈ allRows) (hne : rows ≠ []) : parseF (codeTxt n rows) = some (.tup [.int n, .tup (rows.map W.tup)]) := by
  unfold codeTxt linesOf
  rw [parse_unl (lines_no n0 n1 hr) (by simpa using hne) head5.1, head5.2, (head_facts n0 n1).1, insL_rows hr]
  rfl
theorem unl_snoc (ls : List (List Nat)) (l : List Nat) : unl ls ++ (l ++ [10]) = unl (ls ++ [l]) := by simp [unl]
theorem parse_more {l : List Nat} (n0 : 0 ≤ n) (n1 : n < 12) (hr : ∀ r ∈ rows, r ∈ allRows) (hl : 10 ∉ l) (hb : insF l = none) : parseF (codeTxt n rows ++ (l ++ [10])) = none := by
  unfold codeTxt
  rw [unl_snoc]
  unfold linesOf
  rw [List.cons_append, parse_unl ?_ (by simp) head5.1, head5.2, (head_facts n0 n1).1, insL_bad hb]
  · rfl
  · intro z hz
    rw [← List.cons_append] at hz
    rcases List.mem_append.mp hz with hz | hz
    · exact lines_no n0 n1 hr z hz
    · rw [List.mem_singleton.mp hz]; exact hl
end
def badL : List (List Nat) := [[], [112, 117, 115, 104], [112, 117, 115, 104, 32, 48, 49], [112, 117, 115, 104, 32, 45, 49], [112, 117, 115, 104, 32, 116, 114, 117, 101], [115, 105, 103, 110, 32, 97, 110, 100],
  [112, 117, 115, 104, 32, 52, 50, 57, 52, 57, 54, 55, 50, 57, 54], [110, 111, 116, 32, 49], [109, 97, 107, 101, 32, 97, 32, 68], [109, 97, 107, 101, 32, 97, 32, 105, 102, 32, 49], [99, 97, 108, 108, 32, 49, 32, 49, 32, 49], [112, 111, 112],
  [108, 111, 97, 100, 32, 49, 32], [32, 108, 111, 97, 100, 32, 49], [108, 111, 97, 100, 32, 32, 49], [102, 105, 101, 108, 100, 32, 49, 97], [106, 117, 109, 112, 32, 52, 50, 57, 52, 57, 54, 55, 50, 57, 54]]
theorem bad_ok : badL.all (fun l => (match insF l with | none => true | _ => false) && decide (10 ∉ l) && decide (l.length ≤ 30) && l.all (fun c => decide (c < 128))) = true := by decide +kernel
theorem bad_facts {l : List Nat} (h : l ∈ badL) : insF l = none ∧ 10 ∉ l ∧ l.length ≤ 30 ∧ ∀ c ∈ l, c < 128 := by
  have q := List.all_eq_true.mp bad_ok l h
  simp only [Bool.and_eq_true, decide_eq_true_eq] at q
  refine ⟨?_, q.1.1.2, q.1.2, fun c hc => of_decide_eq_true (List.all_eq_true.mp q.2 c hc)⟩
  cases e : insF l with
  | none => rfl
  | some w => rw [e] at q; exact absurd q.1.1.1 (by simp)
def badT : List (List Nat) := [[99, 111, 100, 101, 32, 120, 10, 110, 111, 116, 10], [99, 111, 100, 101, 32, 49, 10], [99, 111, 100, 101, 10, 110, 111, 116, 10], [], [99, 111, 100, 101, 32, 49]]
theorem badT_ok : badT.all (fun l => (match parseF l with | none => true | _ => false) && decide (l.length ≤ 30) && l.all (fun c => decide (c < 128))) = true := by decide +kernel
theorem badT_facts {l : List Nat} (h : l ∈ badT) : parseF l = none ∧ okS l := by
  have q := List.all_eq_true.mp badT_ok l h
  simp only [Bool.and_eq_true, decide_eq_true_eq] at q
  refine ⟨?_, by omega, fun c hc => by have := of_decide_eq_true (List.all_eq_true.mp q.2 c hc); omega⟩
  cases e : parseF l with
  | none => rfl
  | some w => rw [e] at q; exact absurd q.1.1 (by simp)
/-- texts of no code -/
def Bad (s : List Nat) : Prop := okS s ∧ parseF s = none
theorem unl_facts {ls : List (List Nat)} {m : Nat} (h : ∀ l ∈ ls, l.length ≤ m ∧ ∀ c ∈ l, c < 128) : (unl ls).length ≤ (m + 1) * ls.length ∧ ∀ c ∈ unl ls, c < 128 := by
  unfold unl
  refine ⟨?_, fun c hc => ?_⟩
  · have := flat_len (ps := ls.map (· ++ [10])) (n := m + 1) fun p hp => by
      obtain ⟨l, hl, rfl⟩ := List.mem_map.mp hp
      have := (h l hl).1
      simp; omega
    simpa using this
  · obtain ⟨p, hp, hc⟩ := List.mem_flatten.mp hc
    obtain ⟨l, hl, rfl⟩ := List.mem_map.mp hp
    rcases List.mem_append.mp hc with hc | hc
    · exact (h l hl).2 c hc
    · rw [List.mem_singleton.mp hc]; decide
section
variable {n : Int} {rows : List (List W)} (n0 : 0 ≤ n) (n1 : n < 12) (hr : ∀ r ∈ rows, r ∈ allRows) (hl : rows.length ≤ 10)
include n0 n1 hr hl
theorem txt_facts : (codeTxt n rows).length ≤ 700 ∧ ∀ c ∈ codeTxt n rows, c < 128 := by
  have := unl_facts (ls := linesOf n rows) (m := 60) fun l hl => by
    rcases List.mem_cons.mp hl with rfl | hl
    · have := head_facts n0 n1
      exact ⟨by omega, this.2.2.1⟩
    · obtain ⟨r, hr', rfl⟩ := List.mem_map.mp hl
      have := row_facts (hr r hr')
      exact ⟨this.2.2.2.2.2.1, this.2.2.2.2.2.2.1⟩
  refine ⟨?_, this.2⟩
  have h1 := this.1
  simp only [linesOf, List.length_cons, List.length_map] at h1
  show (unl _).length ≤ _
  simp only [linesOf]; omega
theorem txt_okS : okS (codeTxt n rows) := by
  obtain ⟨a, b⟩ := txt_facts n0 n1 hr hl
  exact ⟨by omega, fun x hx => by have := b x hx; omega⟩
theorem okS_app {a : List Nat} (h : a.length ≤ 100 ∧ ∀ c ∈ a, c < 128) : okS (codeTxt n rows ++ a) ∧ okS (a ++ codeTxt n rows) := by
  obtain ⟨a1, b⟩ := txt_facts n0 n1 hr hl
  refine ⟨⟨by rw [List.length_append]; omega, fun x hx => ?_⟩, ⟨by rw [List.length_append]; omega, fun x hx => ?_⟩⟩ <;> rcases List.mem_append.mp hx with hx | hx
  · have := b x hx; omega
  · have := h.2 x hx; omega
  · have := h.2 x hx; omega
  · have := b x hx; omega
theorem bad_more {l : List Nat} (h : l ∈ badL) : Bad (codeTxt n rows ++ (l ++ [10])) := by
  obtain ⟨b1, b2, b3, b4⟩ := bad_facts h
  refine ⟨(okS_app n0 n1 hr hl ⟨by simp; omega, fun c hc => ?_⟩).1, parse_more n0 n1 hr b2 b1⟩
  rcases List.mem_append.mp hc with hc | hc
  · exact b4 c hc
  · rw [List.mem_singleton.mp hc]; decide
theorem bad_x : Bad (120 :: codeTxt n rows) := by
  refine ⟨(okS_app n0 n1 hr hl (a := [120]) ⟨by decide, by decide⟩).2, ?_⟩
  have e : 120 :: codeTxt n rows = unl ((120 :: headTxt n) :: rows.map rowTxt) := by simp [codeTxt, linesOf, unl]
  rw [e]
  refine parse_head (fun l hl => ?_) (by unfold headTxt cCode; simp)
  rcases List.mem_cons.mp hl with rfl | hl
  · have := (head_facts n0 n1).2.2.2
    simpa using this
  · exact lines_no n0 n1 hr l (List.mem_cons_of_mem _ hl)
theorem bad_front {l : List Nat} (h : l = [110, 111, 116] ∨ l ∈ rows.map rowTxt) : Bad (l ++ [10] ++ codeTxt n rows) := by
  have key : 10 ∉ l ∧ l.take 5 ≠ cCode ∧ l.length ≤ 60 ∧ ∀ c ∈ l, c < 128 := by
    rcases h with rfl | h
    · decide
    · obtain ⟨r, hr', rfl⟩ := List.mem_map.mp h
      have := row_facts (hr r hr')
      exact ⟨this.2.2.1, this.2.2.2.1, this.2.2.2.2.2.1, this.2.2.2.2.2.2.1⟩
  refine ⟨(okS_app n0 n1 hr hl ⟨by simp; omega, fun c hc => ?_⟩).2, ?_⟩
  · rcases List.mem_append.mp hc with hc | hc
    · exact key.2.2.2 c hc
    · rw [List.mem_singleton.mp hc]; decide
  · have e : l ++ [10] ++ codeTxt n rows = unl (l :: linesOf n rows) := by simp [codeTxt, unl]
    rw [e]
    refine parse_head (fun z hz => ?_) key.2.1
    rcases List.mem_cons.mp hz with rfl | hz
    · exact key.1
    · exact lines_no n0 n1 hr z hz
theorem bad_cut (hne : rows ≠ []) : Bad (codeTxt n rows).dropLast := by
  have ok := txt_okS n0 n1 hr hl
  refine ⟨⟨by rw [List.length_dropLast]; have := ok.1; omega, fun x hx => ok.2 x (List.dropLast_subset _ hx)⟩, ?_⟩
  obtain ⟨rs, r, rfl⟩ : ∃ rs r, rows = rs ++ [r] := ⟨_, _, (List.dropLast_concat_getLast hne).symm⟩
  have e : (codeTxt n (rs ++ [r])).dropLast = unl (linesOf n rs) ++ rowTxt r := by
    have : codeTxt n (rs ++ [r]) = (unl (linesOf n rs) ++ rowTxt r) ++ [10] := by simp [codeTxt, linesOf, unl]
    rw [this, List.dropLast_concat]
  have hrr := row_facts (hr r (by simp))
  rw [e]
  exact parse_cut (lines_no n0 n1 fun z hz => hr z (by simp [hz])) hrr.2.2.1 hrr.2.2.2.2.1
end

theorem sameW_code {G : Gh} {n : Int} {rows : List (List W)} (hr : ∀ r ∈ rows, r ∈ allRows) (hl : rows.length ≤ 10) : SameW G 3 (.tup [.int n, .tup (rows.map W.tup)]) (.tup [.int n, .tup (rows.map W.tup)]) := by
  refine .tup (show 2 ≤ SZ by decide) fun x hx => ?_
  simp only [List.mem_cons, List.not_mem_nil, or_false] at hx
  rcases hx with rfl | rfl
  · exact .flat rfl
  · refine .tup (by simp only [List.length_map, SZ]; omega) fun x hx => ?_
    obtain ⟨r, hr', rfl⟩ := List.mem_map.mp hx
    have f := row_facts (hr r hr')
    exact .tup (by have := f.2.2.2.2.2.2.2.2.1; simp only [SZ]; omega) fun y hy => .flat (f.2.2.2.2.2.2.2.1 y hy)
theorem vc_law (ws : List W) (G : Gh) (Q : QV) (E : XQ) (fg : Fgt Q E) (h : sp_law ws G Q E) (C : Nat) :
    rd_law sp_tape sp_take sp_row sp_format (sp_same 3) (sp_parse C) sp_refused { nx := fun _ G' => Q .non G', rt := Q, ex := fun _ => E } (startF 11 ws) G := by
  unfold sp_law at h
  split at h
  · rename_i x
    obtain ⟨ns, hns, k⟩ := h
    unfold rd_law
    simp only [startF, List.map_cons, List.map_nil, List.cons_append, List.nil_append, List.length_cons, List.length_nil, List.replicate]
    refine sSeq_i (sSet_i (eCall_i (aConsV_i rfl (aNil_i ⟨ns, hns, fun G1 t c le1 ft T1 => ?_⟩))))
    simp only [put_zero, put_succ]
    refine sSeq_i (sSet_i (eTup_i (aCons_i ?_)))
    refine take_ok (t := t) (c := c) rfl T1 (by decide) (by decide) fun n n0 n1 G2 T2 K2 => ?_
    refine aCons_i (eBlt_i (aCons_i ?_))
    simp only [eLc, iRng1, aCons, aNil]
    refine eOp_i ?_
    simp only [eC]
    refine take_ok (t := t) (c := c) rfl T2 (by decide) (by decide) fun m m0 m1 G3 T3 K3 => ?_
    simp only [rAdd]
    refine ⟨rngOk_small (by omega) (by omega), ?_⟩
    refine draws_ok (t := t) (c := c) T3 (by omega) (fun w => rfl) fun vs G4 p4 h1 h2 T4 K4 f4 e4 => ?_
    obtain ⟨rows, rfl, hr⟩ : ∃ rows : List (List W), vs = rows.map W.tup ∧ ∀ r ∈ rows, r ∈ allRows := by
      clear e4 h1
      induction vs with
      | nil => exact ⟨[], rfl, fun r h => (by cases h)⟩
      | cons v vs ih =>
        obtain ⟨us, h3, rfl⟩ := h2 v (by simp)
        obtain ⟨rows, rfl, h4⟩ := ih fun w hw => h2 w (by simp [hw])
        exact ⟨us :: rows, rfl, fun r hr => by
          rcases List.mem_cons.mp hr with rfl | hr
          · exact h3
          · exact h4 r hr⟩
    rw [List.length_map] at h1
    have hl : rows.length ≤ 10 := by omega
    have hne : rows ≠ [] := by rintro rfl; simp at h1; omega
    simp only [bTuple, e4]
    refine ⟨show 2 ≤ SZ by decide, ?_⟩
    simp only [put_zero, put_succ]
    clear e4 f4 K4 K3 K2 T1 T2 T3
    -- the lines
    have a0 : at_ [W.int n, W.tup (rows.map W.tup)] 0 = some (.int n) := rfl
    have a1 : at_ [W.int n, W.tup (rows.map W.tup)] 1 = some (.tup (rows.map W.tup)) := rfl
    have hhd := head_facts n0 n1
    have hd2 : (headTxt n).length = [99, 111, 100, 101, 32].length + (decI n).length := List.length_append
    simp only [List.length_cons, List.length_nil] at hd2
    refine sSeq_i (sSet_i (eOp_i (eLst_i (aCons_i (eOp_i ?_)))))
    simp only [eC, eBlt, eOp, eVar, aCons, aNil, get_zero, get_succ, rAt, a0, bStr, rAdd]
    refine ⟨?_, by simp only [SZ, List.length_cons, List.length_nil]; omega, show 1 ≤ SZ by decide, fun p5 f5 => ?_⟩
    · have : n.natAbs.log2 ≤ n.natAbs := Nat.log2_le_self _
      omega
    have T5 := T4.new (o := .lst [.str (headTxt n)]) f5
    generalize hG5 : up G4 p5 (.lst [.str ([99, 111, 100, 101, 32] ++ decI n)]) = G5
    have T5 : Tape G5 t c := by rw [← hG5]; exact T5
    have e5 : G5 p5 = some (.lst [.str (headTxt n)]) := by rw [← hG5]; exact up_same
    refine lc_valL (x := .tup (rows.map W.tup)) (all := rows.map W.tup) (f := fun w => match w with | .tup ws => .str (rowTxt ws) | w => w) (fun K k => by simp only [eOp, eVar, eC, rAt, a1, get_zero, get_succ]; exact k) rfl (by simp only [List.length_map, SZ]; omega) ?_ fun p6 G6 f6 l6 e6 => ?_
    · intro w hw G' K l kk
      obtain ⟨r, hr', rfl⟩ := List.mem_map.mp hw
      refine row_join (hr r hr') ?_ ?_ fun G' l' => kk G' l'
      · exact fun K k => k
      · exact fun w => rfl
    rw [List.map_map] at e6
    have e6 : G6 p6 = some (.lst ((rows.map rowTxt).map W.str)) := by rw [e6, List.map_map]; rfl
    simp only [l6 _ _ e5, e6]
    refine ⟨by simp only [List.length_map, List.length_cons, List.length_nil, SZ]; omega, fun p7 f7 => ?_⟩
    have T7 := (T5.le l6).new (o := .lst ([.str (headTxt n)] ++ (rows.map rowTxt).map W.str)) f7
    generalize hG7 : up G6 p7 (.lst ([.str (headTxt n)] ++ (rows.map rowTxt).map W.str)) = G7 at T7
    have e7 : G7 p7 = some (.lst ((linesOf n rows).map W.str)) := by rw [← hG7]; exact up_same
    simp only [put_zero, put_succ]
    clear e6 l6 f6 hG7 hG5 f5 e5 T5 T4 f7
    -- the text
    refine sSeq_i (sSet_i (eBm_i (x := .str []) (fun K k => k) (show "str" = "str" from rfl) (aCons_i ?_)))
    have hlen : (linesOf n rows).length ≤ 11 := by simp only [linesOf, List.length_cons, List.length_map]; omega
    have hll : ∀ l ∈ linesOf n rows, l.length ≤ 60 := fun l hl' => by
      rcases List.mem_cons.mp hl' with rfl | hl'
      · omega
      · obtain ⟨r, hr', rfl⟩ := List.mem_map.mp hl'
        exact (row_facts (hr r hr')).2.2.2.2.2.1
    refine lc_val (x := .ref p7) (all := (linesOf n rows).map W.str) (f := fun w => match w with | .str a => .str (a ++ [10]) | w => w) (fun K k => by simp only [eVar, get_zero, get_succ]; exact k) (by simp only [items, e7]) (by simp only [List.length_map, SZ]; omega) ?_ fun p8 f8 => ?_
    · intro w hw G' K l kk
      obtain ⟨a, ha, rfl⟩ := List.mem_map.mp hw
      simp only [startF, sSeq, sSet, sRet, sRetN, sIf, sNext, sDrop, sAsg, sAug, sBrk, sCnt, sThrow, sFld, sFldAug, sPutA, sDput, sFor, iVal, iRng1, iRng2, tV, tTru, tAnd, tOr, tNot, eVar, eC, eOp, eUn, eIf, eAnd, eOr, eNot, eCh, eCh3, eCall, eBlt, eMet, eMakeX, eCallV, eFld, asIns, eTup, eLst, eDnewT, eDnew, eBm, tyW, aCons, aNil, aCs, eSl, oNo, oPart, eDget1, eDget2, eDpop1, eDpop2, eDsetd, isDW, isDM, popK, popD, dictOf, rAt, rIx, rDget, rInD, rNotInD, rInB, rIn, rNotIn, rInA, rEq, rNe, eqA, rLt, rLe, rGt, rGe, rIs, rIsNot, rIsL, rIsLN, rAdd, rSub, rMod, rNeg, rIadd, rSl, isN_non, isN_bl, isN_int, isN_str, isN_ref, isN_tup, gName, gTup, gCons, gNil, truth, bLen, bAbs, bMin, bMax, bInt, bSum, bTuple, bList, bIsi, clsN, mAppend, mPop, get_zero, get_succ, put_zero, put_succ, del_zero, del_succ, nthW_zero, nthW_succ, setF_nil, setF_zero, setF_succ, Option.map_some, List.getElem?_cons_zero, List.getElem?_cons_succ, List.map_cons, List.map_nil, List.cons_append, List.nil_append, List.length_cons, List.length_nil, List.replicate, Bool.not_true, Bool.not_false, Bool.false_eq_true, if_false, if_true, wipe_cons, wipe_nil]
      have := hll a ha
      exact ⟨by simp only [SZ]; omega, kk⟩
    have T8 := T7.new (o := .lst (((linesOf n rows).map (· ++ [10])).map W.str)) f8
    have e8 : ((linesOf n rows).map W.str).map (fun w => match w with | .str a => .str (a ++ [10]) | w => w) = ((linesOf n rows).map (· ++ [10])).map W.str := by rw [List.map_map, List.map_map]; rfl
    rw [e8]
    have e7' : up G7 p8 (.lst (((linesOf n rows).map (· ++ [10])).map W.str)) p7 = some (.lst ((linesOf n rows).map W.str)) := Le.up f8 _ _ e7
    generalize hG8 : up G7 p8 (.lst (((linesOf n rows).map (· ++ [10])).map W.str)) = G8 at T8 e7'
    have e8' : G8 p8 = some (.lst (((linesOf n rows).map (· ++ [10])).map W.str)) := by rw [← hG8]; exact up_same
    simp only [aNil, mJoin, e8', strsW_map]
    refine ⟨?_, ?_⟩
    · have := sum_len (ps := (linesOf n rows).map (· ++ [10])) (n := 61) (fun q hq => by
        obtain ⟨z, hz, rfl⟩ := List.mem_map.mp hq
        have := hll z hz
        simp; omega)
      simp only [List.length_map] at this
      simp only [joinLen, List.length_nil, Nat.zero_mul, SZ]; omega
    rw [joinN_flat]
    show sSeq _ _ _ (put _ 4 (.str (codeTxt n rows))) _
    simp only [put_zero, put_succ]
    clear e8' hG8 e8 f8 T7 e7
    have okT := txt_okS n0 n1 hr hl
    have lenT := (txt_facts n0 n1 hr hl).1
    -- the questions
    refine sSeq_i (sIf_i ?_)
    simp only [tOr, tV, eOp, eCall, aCons, aNil, eVar, get_zero, get_succ]
    refine ⟨rows, rfl, hr, n0, n1, hl, fun G9 l9 => ?_⟩
    simp only [rNe, eqA, decide_true, Bool.not_true, Bool.false_eq_true, if_false, tNot, tTru]
    refine ⟨okT, fun w hw G10 l10 => ?_, fun hn => by rw [parse_code_ok n0 n1 hr hne] at hn; cases hn⟩
    rw [parse_code_ok n0 n1 hr hne] at hw
    cases hw
    refine ⟨sameW_code hr hl, ?_⟩
    simp only [truth, Bool.not_true, Bool.false_eq_true, if_false, sNext]
    have T10 := (T8.le l9).le l10
    have e10 : G10 p7 = some (.lst ((linesOf n rows).map W.str)) := l10 _ _ (l9 _ _ e7')
    -- the wrong texts
    refine sSeq_i (sSet_i ?_)
    simp only [eCall, aCons, aNil, eVar, eBlt, bLen, get_zero, get_succ, e10, List.length_map]
    have hlp : 0 < (linesOf n rows).length := by simp [linesOf]
    refine ⟨c, T10, by omega, by omega, fun d o d0 d1 T11 => ?_⟩
    have e11 : up G10 t o p7 = some (.lst ((linesOf n rows).map W.str)) := by
      rw [up_ne]; exact e10
      rintro rfl
      obtain ⟨_, _, _, _, _, z, _⟩ := T10.ex
      rw [z] at e10; cases e10
    generalize up G10 t o = G11 at T11 e11
    simp only [put_zero, put_succ]
    obtain ⟨ld, hld, ed⟩ : ∃ l, at_ ((linesOf n rows).map W.str) d = some (.str l) ∧ (0 < d → l ∈ rows.map rowTxt) := by
      obtain ⟨i, rfl⟩ := Int.eq_ofNat_of_zero_le d0
      have hi : i < (linesOf n rows).length := by omega
      refine ⟨(linesOf n rows)[i], at_nat (by rw [List.getElem?_map, List.getElem?_eq_getElem hi]; rfl), fun h => ?_⟩
      obtain ⟨j, rfl⟩ : ∃ j, i = j + 1 := ⟨i - 1, by omega⟩
      simp only [linesOf, List.getElem_cons_succ]
      exact List.getElem_mem _
    refine sSeq_i (sSet_i (eLst_i (aCons_i ?_)))
    have addC : ∀ {l : List Nat} {r : TA} {γ : Fr} {Q : List W → Gh → Prop}, get γ 4 = some (.str (codeTxt n rows)) → l.length ≤ 100 → (r γ G11 E fun xs G2 => Q (.str (codeTxt n rows ++ l) :: xs) G2) → aCons (eOp rAdd (eVar 4) (eC (.str l))) r γ G11 E Q := by
      intro l r γ Q h1 h2 h3
      refine aCons_i (eOp_i (eVar_i h1 ?_))
      exact ⟨by simp only [SZ]; omega, h3⟩
    simp only [eSl, oNo, oPart, eUn, eVar, eC, rNeg, rSl, get_zero, get_succ]
    refine ⟨by simp only [SZ]; omega, ?_⟩
    rw [cut_init]
    refine addC rfl (by decide) (aCons_i (eOp_i ?_))
    simp only [eC, eVar, get_zero, get_succ, rAdd]
    refine ⟨by simp only [SZ, List.length_cons, List.length_nil]; omega, ?_⟩
    iterate 14 refine addC rfl (by decide) ?_
    refine aConsC_i (aConsC_i (aConsC_i (aConsC_i (aConsC_i (aCons_i ?_)))))
    have bIf : ∀ {γ : Fr} {Q : QV}, get γ 3 = some (.ref p7) → get γ 4 = some (.str (codeTxt n rows)) → get γ 5 = some (.int d) → (∀ Z, Bad Z → Q (.str Z) G11) →
        eIf (tV (eOp rGt (eVar 5) (eC (.int 0)))) (eOp rAdd (eOp rAdd (eOp rAt (eVar 3) (eVar 5)) (eC (.str [10]))) (eVar 4)) (eOp rAdd (eC (.str [110, 111, 116, 10])) (eVar 4)) γ G11 E Q := by
      intro γ Q h3 h4 h5 kk
      simp only [eIf, tV, eOp, eVar, eC, h3, h4, h5, rGt, rAt, e11, rAdd]
      by_cases hd0 : 0 < d
      · rw [if_pos (decide_eq_true hd0)]
        simp only [hld]
        have h6 := ed hd0
        have hll2 := hll ld (List.mem_cons_of_mem _ h6)
        exact ⟨by simp only [SZ, List.length_cons, List.length_nil]; omega, by simp only [SZ, List.length_append, List.length_cons, List.length_nil]; omega, kk _ (bad_front n0 n1 hr hl (.inr h6))⟩
      · rw [if_neg (by simpa using hd0)]
        exact ⟨by simp only [SZ, List.length_cons, List.length_nil]; omega, kk _ (bad_front n0 n1 hr hl (l := [110, 111, 116]) (.inl rfl))⟩
    refine bIf rfl rfl rfl fun Z hZ => ?_
    refine addC rfl (by decide) (addC rfl (by decide) (aNil_i ?_))
    generalize hws : (_ :: _ :: _ : List W) = wrong
    have hbad : wrong.length = 25 ∧ ∀ w ∈ wrong, ∃ s, w = .str s ∧ Bad s := by
      rw [← hws]
      refine ⟨rfl, ?_⟩
      have key : ∀ {s : List Nat}, Bad s → ∃ z, W.str s = .str z ∧ Bad z := fun h => ⟨_, rfl, h⟩
      refine List.forall_mem_cons.mpr ⟨key (bad_cut n0 n1 hr hl hne), ?_⟩
      have more : ∀ {l : List Nat}, l ∈ badL.map (· ++ [10]) → ∃ z, W.str (codeTxt n rows ++ l) = .str z ∧ Bad z := fun h => by
        obtain ⟨l, hl', rfl⟩ := List.mem_map.mp h
        exact key (bad_more n0 n1 hr hl hl')
      refine List.forall_mem_cons.mpr ⟨more (by decide), ?_⟩
      refine List.forall_mem_cons.mpr ⟨key (bad_x n0 n1 hr hl), ?_⟩
      iterate 14 refine List.forall_mem_cons.mpr ⟨more (by decide), ?_⟩
      have tx : ∀ {l : List Nat}, l ∈ badT → ∃ z, W.str l = .str z ∧ Bad z := fun h => key ⟨(badT_facts h).2, (badT_facts h).1⟩
      iterate 5 refine List.forall_mem_cons.mpr ⟨tx (by decide), ?_⟩
      exact List.forall_mem_cons.mpr ⟨key hZ, List.forall_mem_cons.mpr ⟨more (by decide), List.forall_mem_cons.mpr ⟨more (by decide), List.forall_mem_nil _⟩⟩⟩
    refine ⟨by rw [hbad.1]; decide, fun p9 f9 => ?_⟩
    have T12 := T11.new (o := .lst wrong) f9
    have n9 := T11.free f9
    generalize hG12 : up G11 p9 (.lst wrong) = G12 at T12
    have e12 : G12 p9 = some (.lst wrong) := by rw [← hG12]; exact up_same
    simp only [put_zero, put_succ]
    refine sSeq_i ?_
    simp only [sFor, iRng1, aCons, aNil, eC]
    refine ⟨rngOk_small (by decide) (by decide), _, rfl, ?_⟩
    refine forR_ind (fun i γ K => Tape K t c ∧ K p9 = some (.lst wrong) ∧ ∃ y7, γ = [some x, some (.ref t), some (.tup [.int n, .tup (rows.map W.tup)]), some (.ref p7), some (.str (codeTxt n rows)), some (.int d), some (.ref p9), y7, none, none, none]) (fun i γ K _ _ => rfl) ?_ ?_ _ _ ⟨T12, e12, _, rfl⟩
    · rintro γ K ⟨T, e, y7, rfl⟩
      exact k K
    · rintro i γ K hi ⟨T, e, y7, rfl⟩ F hF
      simp only [gName, rd_law_b0, put_zero, put_succ]
      refine sIf_i ?_
      simp only [tNot, tTru]
      refine eCall_i (aCons_i (eOp_i (eVar_i rfl ?_)))
      refine take_ok (t := t) (c := c) rfl T (by decide) (by decide) fun d' d0' d1' K2 T2 kp => ?_
      have e2 := kp p9 _ n9.1 e
      obtain ⟨w, hw, ew⟩ := at_mem (xs := wrong) d0' (by rw [hbad.1]; exact d1')
      obtain ⟨s, rfl, hs1, hs2⟩ := hbad.2 w hw
      simp only [rAt, e2, ew, aNil]
      refine ⟨hs1, hs2, fun K3 l3 => ?_⟩
      simp only [truth, Bool.not_true, Bool.false_eq_true, if_false, sNext]
      exact hF _ _ ⟨T2.le l3, l3 _ _ e2, _, rfl⟩
  · exact h.elim

end L3.Lw
end
section
namespace L3.Lw
open PySem PySem.Spec PyProof.Rows L2 L3
def topS (i : Nat) : Stmt := PySem.Challenge.pw_deepbench_k79_code_texts.main.body.getD i (.Pass ⟨0, 0, 0, 0⟩)
abbrev t_run_end : Stmt := topS 9
theorem sc_run_end : FnScope ["text", "start", "allowed", "end"] ["text", "start", "allowed"] (defScope t_run_end) := ⟨rfl, rfl, rfl, by decide +kernel, rfl, by decide +kernel, by decide +kernel⟩
abbrev t_token_at : Stmt := topS 10
theorem sc_token_at : FnScope ["text", "start", "char", "end"] ["text", "start"] (defScope t_token_at) := ⟨rfl, rfl, rfl, by decide +kernel, rfl, by decide +kernel, by decide +kernel⟩
abbrev t_tokens_between : Stmt := topS 11
theorem sc_tokens_between : FnScope ["text", "start", "end", "result", "at", "line_end", "token"] ["text", "start", "end"] (defScope t_tokens_between) := ⟨rfl, rfl, rfl, by decide +kernel, rfl, by decide +kernel, by decide +kernel⟩
abbrev t_tokens : Stmt := topS 12
theorem sc_tokens : FnScope ["text"] ["text"] (defScope t_tokens) := ⟨rfl, rfl, rfl, by decide +kernel, rfl, by decide +kernel, by decide +kernel⟩
abbrev t_is_name : Stmt := topS 13
theorem sc_is_name : FnScope ["value"] ["value"] (defScope t_is_name) := ⟨rfl, rfl, rfl, by decide +kernel, rfl, by decide +kernel, by decide +kernel⟩
abbrev t_format_code : Stmt := topS 20
theorem sc_format_code : FnScope ["code", "lines", "instruction", "item"] ["code"] (defScope t_format_code) := ⟨rfl, rfl, rfl, by decide +kernel, rfl, by decide +kernel, by decide +kernel⟩
abbrev t_number_in : Stmt := topS 21
theorem sc_number_in : FnScope ["word", "char"] ["word"] (defScope t_number_in) := ⟨rfl, rfl, rfl, by decide +kernel, rfl, by decide +kernel, by decide +kernel⟩
abbrev t_item_in : Stmt := topS 22
theorem sc_item_in : FnScope ["word", "shape"] ["word", "shape"] (defScope t_item_in) := ⟨rfl, rfl, rfl, by decide +kernel, rfl, by decide +kernel, by decide +kernel⟩
abbrev t_instruction_in : Stmt := topS 23
theorem sc_instruction_in : FnScope ["line", "words", "shape", "word", "one"] ["line"] (defScope t_instruction_in) := ⟨rfl, rfl, rfl, by decide +kernel, rfl, by decide +kernel, by decide +kernel⟩
abbrev t_parse_code : Stmt := topS 24
theorem sc_parse_code : FnScope ["text", "lines", "line"] ["text"] (defScope t_parse_code) := ⟨rfl, rfl, rfl, by decide +kernel, rfl, by decide +kernel, by decide +kernel⟩
abbrev t_law_tape : Stmt := topS 26
theorem sc_law_tape : FnScope ["script", "cells", "seed", "cell"] ["script"] (defScope t_law_tape) := ⟨rfl, rfl, rfl, by decide +kernel, rfl, by decide +kernel, by decide +kernel⟩
abbrev t_law_take : Stmt := topS 27
theorem sc_law_take : FnScope ["tape", "many", "mixed", "drawn"] ["tape", "many"] (defScope t_law_take) := ⟨rfl, rfl, rfl, by decide +kernel, rfl, by decide +kernel, by decide +kernel⟩
abbrev t_law_is_integer : Stmt := topS 28
theorem sc_law_is_integer : FnScope ["actual"] ["actual"] (defScope t_law_is_integer) := ⟨rfl, rfl, rfl, by decide +kernel, rfl, by decide +kernel, by decide +kernel⟩
abbrev t_law_same_items : Stmt := topS 29
theorem sc_law_same_items : FnScope ["actual", "expected", "k"] ["actual", "expected"] (defScope t_law_same_items) := ⟨rfl, rfl, rfl, by decide +kernel, rfl, by decide +kernel, by decide +kernel⟩
abbrev t_law_same : Stmt := topS 30
theorem sc_law_same : FnScope ["actual", "expected", "key"] ["actual", "expected"] (defScope t_law_same) := ⟨rfl, rfl, rfl, by decide +kernel, rfl, by decide +kernel, by decide +kernel⟩
abbrev t_law_row : Stmt := topS 32
theorem sc_law_row : FnScope ["tape", "number", "name", "rows"] ["tape"] (defScope t_law_row) := ⟨rfl, rfl, rfl, by decide +kernel, rfl, by decide +kernel, by decide +kernel⟩
abbrev t_law_is_refused : Stmt := topS 33
theorem sc_law_is_refused : FnScope ["text"] ["text"] (defScope t_law_is_refused) := ⟨rfl, rfl, rfl, by decide +kernel, rfl, by decide +kernel, by decide +kernel⟩
abbrev t_law : Stmt := topS 34
theorem sc_law : FnScope ["script", "tape", "code", "lines", "text", "at", "wrong", "k", "row", "line", "item"] ["script"] (defScope t_law) := ⟨rfl, rfl, rfl, by decide +kernel, rfl, by decide +kernel, by decide +kernel⟩
/-- where the defs stand -/
structure Ad where
  C_InvalidCode : Addr
  f_run_end : Addr
  x_run_end : FuncData
  f_token_at : Addr
  x_token_at : FuncData
  f_tokens_between : Addr
  x_tokens_between : FuncData
  f_tokens : Addr
  x_tokens : FuncData
  f_is_name : Addr
  x_is_name : FuncData
  f_format_code : Addr
  x_format_code : FuncData
  f_number_in : Addr
  x_number_in : FuncData
  f_item_in : Addr
  x_item_in : FuncData
  f_instruction_in : Addr
  x_instruction_in : FuncData
  f_parse_code : Addr
  x_parse_code : FuncData
  f_law_tape : Addr
  x_law_tape : FuncData
  f_law_take : Addr
  x_law_take : FuncData
  f_law_is_integer : Addr
  x_law_is_integer : FuncData
  f_law_same_items : Addr
  x_law_same_items : FuncData
  f_law_same : Addr
  x_law_same : FuncData
  f_law_row : Addr
  x_law_row : FuncData
  f_law_is_refused : Addr
  x_law_is_refused : FuncData
  f_law : Addr
  x_law : FuncData
structure Txt (w : World) (K : PySem.W.Frag) (mg : Str → Option Value) (a : Ad) : Prop where
  b_abs : mg "abs" = none
  b_all : mg "all" = none
  b_bool : mg "bool" = none
  b_dict : mg "dict" = none
  b_int : mg "int" = none
  b_isinstance : mg "isinstance" = none
  b_len : mg "len" = none
  b_list : mg "list" = none
  b_range : mg "range" = none
  b_str : mg "str" = none
  b_tuple : mg "tuple" = none
  b_zip : mg "zip" = none
  E_InvalidCode : ExCls K mg "InvalidCode" a.C_InvalidCode "ValueError" "ValueError.__new__" "ValueError.__init__" [.type "ValueError", .type "Exception", .type "BaseException", .type "object"]
  k_DIGITS_codetext : Kst K mg "DIGITS_codetext" c_DIGITS_codetext
  k_DIGITS_tokens : Kst K mg "DIGITS_tokens" c_DIGITS
  k_LETTERS : Kst K mg "LETTERS" c_LETTERS
  k_MOST_DIGITS : Kst K mg "MOST_DIGITS" c_MOST_DIGITS
  k_NAME_CHARACTERS : Kst K mg "NAME_CHARACTERS" c_NAME_CHARACTERS
  k_SIGNS_codes : Kst K mg "SIGNS_codes" c_SIGNS_codes
  k_SIGNS_tokens : Kst K mg "SIGNS_tokens" c_SIGNS
  k_SIZE : Kst K mg "SIZE" c_SIZE
  k_WORDS : Kst K mg "WORDS" c_WORDS
  d_SHAPES : Kdt K w mg "SHAPES" kd_SHAPES
  m_run_end : mg "run_end" = some (.ref a.f_run_end)
  F_run_end : Fun K "run_end" "run_end" t_run_end a.f_run_end a.x_run_end
  B_run_end : Binds K a.x_run_end ["text", "start", "allowed"] []
  m_token_at : mg "token_at" = some (.ref a.f_token_at)
  F_token_at : Fun K "token_at" "token_at" t_token_at a.f_token_at a.x_token_at
  B_token_at : Binds K a.x_token_at ["text", "start"] []
  m_tokens_between : mg "tokens_between" = some (.ref a.f_tokens_between)
  F_tokens_between : Fun K "tokens_between" "tokens_between" t_tokens_between a.f_tokens_between a.x_tokens_between
  B_tokens_between : Binds K a.x_tokens_between ["text", "start", "end"] []
  m_tokens : mg "tokens" = some (.ref a.f_tokens)
  F_tokens : Fun K "tokens" "tokens" t_tokens a.f_tokens a.x_tokens
  B_tokens : Binds K a.x_tokens ["text"] []
  m_is_name : mg "is_name" = some (.ref a.f_is_name)
  F_is_name : Fun K "is_name" "is_name" t_is_name a.f_is_name a.x_is_name
  B_is_name : Binds K a.x_is_name ["value"] []
  m_format_code : mg "format_code" = some (.ref a.f_format_code)
  F_format_code : Fun K "format_code" "format_code" t_format_code a.f_format_code a.x_format_code
  B_format_code : Binds K a.x_format_code ["code"] []
  m_number_in : mg "number_in" = some (.ref a.f_number_in)
  F_number_in : Fun K "number_in" "number_in" t_number_in a.f_number_in a.x_number_in
  B_number_in : Binds K a.x_number_in ["word"] []
  m_item_in : mg "item_in" = some (.ref a.f_item_in)
  F_item_in : Fun K "item_in" "item_in" t_item_in a.f_item_in a.x_item_in
  B_item_in : Binds K a.x_item_in ["word", "shape"] []
  m_instruction_in : mg "instruction_in" = some (.ref a.f_instruction_in)
  F_instruction_in : Fun K "instruction_in" "instruction_in" t_instruction_in a.f_instruction_in a.x_instruction_in
  B_instruction_in : Binds K a.x_instruction_in ["line"] []
  m_parse_code : mg "parse_code" = some (.ref a.f_parse_code)
  F_parse_code : Fun K "parse_code" "parse_code" t_parse_code a.f_parse_code a.x_parse_code
  B_parse_code : Binds K a.x_parse_code ["text"] []
  m_law_tape : mg "_law_tape" = some (.ref a.f_law_tape)
  F_law_tape : Fun K "_law_tape" "_law_tape" t_law_tape a.f_law_tape a.x_law_tape
  B_law_tape : Binds K a.x_law_tape ["script"] []
  m_law_take : mg "_law_take" = some (.ref a.f_law_take)
  F_law_take : Fun K "_law_take" "_law_take" t_law_take a.f_law_take a.x_law_take
  B_law_take : Binds K a.x_law_take ["tape", "many"] []
  m_law_is_integer : mg "_law_is_integer" = some (.ref a.f_law_is_integer)
  F_law_is_integer : Fun K "_law_is_integer" "_law_is_integer" t_law_is_integer a.f_law_is_integer a.x_law_is_integer
  B_law_is_integer : Binds K a.x_law_is_integer ["actual"] []
  m_law_same_items : mg "_law_same_items" = some (.ref a.f_law_same_items)
  F_law_same_items : Fun K "_law_same_items" "_law_same_items" t_law_same_items a.f_law_same_items a.x_law_same_items
  B_law_same_items : Binds K a.x_law_same_items ["actual", "expected"] []
  m_law_same : mg "_law_same" = some (.ref a.f_law_same)
  F_law_same : Fun K "_law_same" "_law_same" t_law_same a.f_law_same a.x_law_same
  B_law_same : Binds K a.x_law_same ["actual", "expected"] []
  m_law_row : mg "_law_row" = some (.ref a.f_law_row)
  F_law_row : Fun K "_law_row" "_law_row" t_law_row a.f_law_row a.x_law_row
  B_law_row : Binds K a.x_law_row ["tape"] []
  m_law_is_refused : mg "_law_is_refused" = some (.ref a.f_law_is_refused)
  F_law_is_refused : Fun K "_law_is_refused" "_law_is_refused" t_law_is_refused a.f_law_is_refused a.x_law_is_refused
  B_law_is_refused : Binds K a.x_law_is_refused ["text"] []
  m_law : mg "law" = some (.ref a.f_law)
  F_law : Fun K "law" "law" t_law a.f_law a.x_law
  B_law : Binds K a.x_law ["script"] []
section
variable {P : Program} {w : World} {K : PySem.W.Frag} {mg : Str → Option Value} {base : Heap} {a : Ad}
theorem ok_run_end (T : Txt w K mg a) {k : Nat} {sp : Sp} (mono : Mono sp) (len : ∀ ws G Q E, sp ws G Q E → ws.length = 3)
    (vc : ∀ ws G Q E, Fgt Q E → sp ws G Q E → rd_run_end { nx := fun _ G' => Q .non G', rt := Q, ex := fun _ => E } (startF 4 ws) G) :
    Ok3 P w K mg base (k + 1) a.f_run_end a.x_run_end ["text", "start", "allowed"] sp :=
  ok3 mono T.F_run_end sc_run_end len (fun cdv A outer s H E hr => (pss3_cons (ps3_set (i := 3) sc_run_end.nd rfl (by first | exact Or.inl rfl | exact Or.inr rfl) (pe3_var (pv 1))) (pss3_cons (ps3_while (passes_of rfl) (PW3.pt (pw3_and (pt3_cmp o_lt (pe3_var (pv 3)) (pe3_blt b_len (by rfl) T.b_len (by decide +kernel) (pa3_cons (pe3_var (pv 0)) pa3_nil)) (nomark _)) (pw3_and1 (pt3_cmp (o_inD (by have h := hu65 hr; exact h)) (pe3_ix (x_at (hu_of hr)) (pe3_var (pv 0)) (pe3_var (pv 3)) (fun _ _ => rfl)) (pe3_var (pv 2)) (by rfl))))) (pss3_one (ps3_aug (i := 3) sc_run_end.nd rfl (by first | exact Or.inl rfl | exact Or.inr rfl) o_iadd pe3_int))) (pss3_one (ps3_ret (pe3_var (pv 3))))))) vc
theorem ok_token_at (T : Txt w K mg a) {k : Nat} {sp : Sp} {s_run_end : Sp} {k_run_end : Nat} (G_run_end : Ok3 P w K mg base k_run_end a.f_run_end a.x_run_end ["text", "start", "allowed"] s_run_end) (h_run_end : k_run_end ≤ k) (mono : Mono sp) (len : ∀ ws G Q E, sp ws G Q E → ws.length = 2)
    (vc : ∀ ws G Q E, Fgt Q E → sp ws G Q E → rd_token_at s_run_end { nx := fun _ G' => Q .non G', rt := Q, ex := fun _ => E } (startF 4 ws) G) :
    Ok3 P w K mg base (k + 1) a.f_token_at a.x_token_at ["text", "start"] sp :=
  ok3 mono T.F_token_at sc_token_at len (fun cdv A outer s H E hr => (pss3_cons (ps3_set (i := 2) sc_token_at.nd rfl (by first | exact Or.inl rfl | exact Or.inr rfl) (pe3_ix (x_at (hu_of hr)) (pe3_var (pv 0)) (pe3_var (pv 1)) (fun _ _ => rfl))) (pss3_cons (ps3_if (pt3_cmp (o_inD (by have h := hu65 hr; exact h)) (pe3_var (pv 2)) (pe3_kst T.k_LETTERS (by rfl)) (by rfl)) (pss3_cons (ps3_set (i := 3) sc_token_at.nd rfl (by first | exact Or.inl rfl | exact Or.inr rfl) (pe3_call G_run_end (hr.mono h_run_end) (by rfl) T.m_run_end T.F_run_end.kp T.B_run_end (pa3_cons (pe3_var (pv 0)) (pa3_cons (pe3_var (pv 1)) (pa3_cons (pe3_kst T.k_NAME_CHARACTERS (by rfl)) pa3_nil))))) (pss3_cons (ps3_if (pt3_cmp (o_inD (by have h := hu65 hr; exact h)) (pe3_sl (pe3_var (pv 0)) (po3_some (pe3_var (pv 1))) (po3_some (pe3_var (pv 3)))) (pe3_kst T.k_WORDS (by rfl)) (by rfl)) (pss3_one (ps3_ret (pe3_tup (pa3_cons (pe3_str (l := [119, 111, 114, 100]) (by decide +kernel)) (pa3_cons (pe3_var (pv 1)) (pa3_cons (pe3_var (pv 3)) pa3_nil)))))) pss3_nil) (pss3_one (ps3_ret (pe3_tup (pa3_cons (pe3_str (l := [110, 97, 109, 101]) (by decide +kernel)) (pa3_cons (pe3_var (pv 1)) (pa3_cons (pe3_var (pv 3)) pa3_nil)))))))) pss3_nil) (pss3_cons (ps3_if (pt3_cmp (o_inD (by have h := hu65 hr; exact h)) (pe3_var (pv 2)) (pe3_kst T.k_DIGITS_tokens (by rfl)) (by rfl)) (pss3_one (ps3_ret (pe3_tup (pa3_cons (pe3_str (l := [110, 117, 109, 98, 101, 114]) (by decide +kernel)) (pa3_cons (pe3_var (pv 1)) (pa3_cons (pe3_call G_run_end (hr.mono h_run_end) (by rfl) T.m_run_end T.F_run_end.kp T.B_run_end (pa3_cons (pe3_var (pv 0)) (pa3_cons (pe3_var (pv 1)) (pa3_cons (pe3_kst T.k_DIGITS_tokens (by rfl)) pa3_nil)))) pa3_nil)))))) pss3_nil) (pss3_cons (ps3_if (pt3_cmp (o_eq hr.units) (pe3_sl (pe3_var (pv 0)) (po3_some (pe3_var (pv 1))) (po3_some (pe3_op o_add (pe3_var (pv 1)) pe3_int))) (pe3_str (l := [61, 61]) (by decide +kernel)) (nomark _)) (pss3_one (ps3_ret (pe3_tup (pa3_cons (pe3_str (l := [115, 105, 103, 110]) (by decide +kernel)) (pa3_cons (pe3_var (pv 1)) (pa3_cons (pe3_op o_add (pe3_var (pv 1)) pe3_int) pa3_nil)))))) pss3_nil) (pss3_cons (ps3_if (pt3_cmp (o_inD (by have h := hu65 hr; exact h)) (pe3_var (pv 2)) (pe3_kst T.k_SIGNS_tokens (by rfl)) (by rfl)) (pss3_one (ps3_ret (pe3_tup (pa3_cons (pe3_str (l := [115, 105, 103, 110]) (by decide +kernel)) (pa3_cons (pe3_var (pv 1)) (pa3_cons (pe3_op o_add (pe3_var (pv 1)) pe3_int) pa3_nil)))))) pss3_nil) (pss3_one (ps3_ret (pe3_tup (pa3_cons (pe3_str (l := [119, 114, 111, 110, 103]) (by decide +kernel)) (pa3_cons (pe3_var (pv 1)) (pa3_cons (pe3_op o_add (pe3_var (pv 1)) pe3_int) pa3_nil)))))))))))) vc
theorem ok_tokens_between (T : Txt w K mg a) {k : Nat} {sp : Sp} {s_token_at : Sp} {k_token_at : Nat} (G_token_at : Ok3 P w K mg base k_token_at a.f_token_at a.x_token_at ["text", "start"] s_token_at) (h_token_at : k_token_at ≤ k) (mono : Mono sp) (len : ∀ ws G Q E, sp ws G Q E → ws.length = 3)
    (vc : ∀ ws G Q E, Fgt Q E → sp ws G Q E → rd_tokens_between s_token_at { nx := fun _ G' => Q .non G', rt := Q, ex := fun _ => E } (startF 7 ws) G) :
    Ok3 P w K mg base (k + 1) a.f_tokens_between a.x_tokens_between ["text", "start", "end"] sp :=
  ok3 mono T.F_tokens_between sc_tokens_between len (fun cdv A outer s H E hr => (pss3_cons (ps3_set (i := 3) sc_tokens_between.nd rfl (by first | exact Or.inl rfl | exact Or.inr rfl) (pe3_lst pa3_nil)) (pss3_cons (ps3_set (i := 4) sc_tokens_between.nd rfl (by first | exact Or.inl rfl | exact Or.inr rfl) (pe3_var (pv 1))) (pss3_cons (ps3_while (passes_of rfl) (pt3_cmp o_lt (pe3_var (pv 4)) (pe3_var (pv 2)) (nomark _)) (pss3_one (ps3_if (PW3.pt (pw3_or (pt3_cmp (o_eq hr.units) (pe3_ix (x_at (hu_of hr)) (pe3_var (pv 0)) (pe3_var (pv 4)) (fun _ _ => rfl)) (pe3_str (l := [32]) (by decide +kernel)) (nomark _)) (pw3_or1 (pt3_cmp (o_eq hr.units) (pe3_ix (x_at (hu_of hr)) (pe3_var (pv 0)) (pe3_var (pv 4)) (fun _ _ => rfl)) (pe3_str (l := [10]) (by decide +kernel)) (nomark _))))) (pss3_one (ps3_aug (i := 4) sc_tokens_between.nd rfl (by first | exact Or.inl rfl | exact Or.inr rfl) o_iadd pe3_int)) (pss3_one (ps3_if (pt3_cmp (o_eq hr.units) (pe3_ix (x_at (hu_of hr)) (pe3_var (pv 0)) (pe3_var (pv 4)) (fun _ _ => rfl)) (pe3_str (l := [35]) (by decide +kernel)) (nomark _)) (pss3_cons (ps3_set (i := 5) sc_tokens_between.nd rfl (by first | exact Or.inl rfl | exact Or.inr rfl) (pe3_bm PySem.F.plainAttrs_str PySem.F.slot_str_find PySem.F.type_str_find m_find3 (pe3_var (pv 0)) (pa3_cons (pe3_str (l := [10]) (by decide +kernel)) (pa3_cons (pe3_var (pv 4)) pa3_nil)))) (pss3_one (ps3_set (i := 4) sc_tokens_between.nd rfl (by first | exact Or.inl rfl | exact Or.inr rfl) (pe3_if (pt3_cmp o_lt (pe3_var (pv 5)) pe3_int (nomark _)) (pe3_var (pv 2)) (pe3_var (pv 5)))))) (pss3_cons (ps3_set (i := 6) sc_tokens_between.nd rfl (by first | exact Or.inl rfl | exact Or.inr rfl) (pe3_call G_token_at (hr.mono h_token_at) (by rfl) T.m_token_at T.F_token_at.kp T.B_token_at (pa3_cons (pe3_var (pv 0)) (pa3_cons (pe3_var (pv 4)) pa3_nil)))) (pss3_cons (ps3_expr (pe3_bm PySem.F.plainAttrs_list PySem.F.slot_list_append PySem.F.type_list_append m_append (pe3_var (pv 3)) (pa3_cons (pe3_var (pv 6)) pa3_nil))) (pss3_one (ps3_set (i := 4) sc_tokens_between.nd rfl (by first | exact Or.inl rfl | exact Or.inr rfl) (pe3_ix (x_at (hu_of hr)) (pe3_var (pv 6)) pe3_int (fun _ _ => rfl))))))))))) (pss3_one (ps3_ret (pe3_var (pv 3)))))))) vc
theorem ok_tokens (T : Txt w K mg a) {k : Nat} {sp : Sp} {s_tokens_between : Sp} {k_tokens_between : Nat} (G_tokens_between : Ok3 P w K mg base k_tokens_between a.f_tokens_between a.x_tokens_between ["text", "start", "end"] s_tokens_between) (h_tokens_between : k_tokens_between ≤ k) (mono : Mono sp) (len : ∀ ws G Q E, sp ws G Q E → ws.length = 1)
    (vc : ∀ ws G Q E, Fgt Q E → sp ws G Q E → rd_tokens s_tokens_between { nx := fun _ G' => Q .non G', rt := Q, ex := fun _ => E } (startF 1 ws) G) :
    Ok3 P w K mg base (k + 1) a.f_tokens a.x_tokens ["text"] sp :=
  ok3 mono T.F_tokens sc_tokens len (fun cdv A outer s H E hr => (pss3_one (ps3_ret (pe3_call G_tokens_between (hr.mono h_tokens_between) (by rfl) T.m_tokens_between T.F_tokens_between.kp T.B_tokens_between (pa3_cons (pe3_var (pv 0)) (pa3_cons pe3_int (pa3_cons (pe3_blt b_len (by rfl) T.b_len (by decide +kernel) (pa3_cons (pe3_var (pv 0)) pa3_nil)) pa3_nil))))))) vc
theorem ok_is_name (T : Txt w K mg a) {k : Nat} {sp : Sp} {s_tokens : Sp} {k_tokens : Nat} (G_tokens : Ok3 P w K mg base k_tokens a.f_tokens a.x_tokens ["text"] s_tokens) (h_tokens : k_tokens ≤ k) (mono : Mono sp) (len : ∀ ws G Q E, sp ws G Q E → ws.length = 1)
    (vc : ∀ ws G Q E, Fgt Q E → sp ws G Q E → rd_is_name s_tokens { nx := fun _ G' => Q .non G', rt := Q, ex := fun _ => E } (startF 1 ws) G) :
    Ok3 P w K mg base (k + 1) a.f_is_name a.x_is_name ["value"] sp :=
  ok3 mono T.F_is_name sc_is_name len (fun cdv A outer s H E hr => (pss3_one (ps3_ret (pe3_cmp (o_eq hr.units) (pe3_call G_tokens (hr.mono h_tokens) (by rfl) T.m_tokens T.F_tokens.kp T.B_tokens (pa3_cons (pe3_var (pv 0)) pa3_nil)) (pe3_lst (pa3_cons (pe3_tup (pa3_cons (pe3_str (l := [110, 97, 109, 101]) (by decide +kernel)) (pa3_cons pe3_int (pa3_cons (pe3_blt b_len (by rfl) T.b_len (by decide +kernel) (pa3_cons (pe3_var (pv 0)) pa3_nil)) pa3_nil)))) pa3_nil)) (nomark _))))) vc
theorem ok_format_code (T : Txt w K mg a) {k : Nat} {sp : Sp} (mono : Mono sp) (len : ∀ ws G Q E, sp ws G Q E → ws.length = 1)
    (vc : ∀ ws G Q E, Fgt Q E → sp ws G Q E → rd_format_code { nx := fun _ G' => Q .non G', rt := Q, ex := fun _ => E } (startF 4 ws) G) :
    Ok3 P w K mg base (k + 1) a.f_format_code a.x_format_code ["code"] sp :=
  ok3 mono T.F_format_code sc_format_code len (fun cdv A outer s H E hr => (pss3_cons (ps3_set (i := 1) sc_format_code.nd rfl (by first | exact Or.inl rfl | exact Or.inr rfl) (pe3_lst (pa3_cons (pe3_op o_add (pe3_op o_add (pe3_str (l := [99, 111, 100, 101, 32]) (by decide +kernel)) (pe3_bty b_str (by rfl) T.b_str (by decide +kernel) (pa3_cons (pe3_ix (x_at (hu_of hr)) (pe3_var (pv 0)) pe3_int (fun _ _ => rfl)) pa3_nil))) (pe3_str (l := [10]) (by decide +kernel))) pa3_nil))) (pss3_cons (ps3_for (passes_of rfl) rfl (pi3_val (pe3_ix (x_at (hu_of hr)) (pe3_var (pv 0)) pe3_int (fun _ _ => rfl))) (pg3_name (i := 2) sc_format_code.nd rfl (by first | exact Or.inl rfl | exact Or.inr rfl)) (pss3_one (ps3_expr (pe3_bm PySem.F.plainAttrs_list PySem.F.slot_list_append PySem.F.type_list_append m_append (pe3_var (pv 1)) (pa3_cons (pe3_op o_add (pe3_bm PySem.F.plainAttrs_str PySem.F.slot_str_join PySem.F.type_str_join m_join (pe3_str (l := [32]) (by decide +kernel)) (pa3_cons (pe3_lc (own := [("item", 3)]) rfl sc_format_code.nd (pi3_val (pe3_var (pv 2))) (blkOk_by (own := [("item", 3)]) (N := ["code", "lines", "instruction", "item"]) (sc := defScope t_format_code) (by decide +kernel)) (fun _ _ _ _ _ => (pg3_name (i := 3) sc_format_code.nd rfl (by first | exact Or.inl rfl | exact Or.inr rfl))) (fun _ _ _ _ _ => pts3_nil) (fun _ _ _ _ _ => (pe3_bty b_str (by rfl) T.b_str (by decide +kernel) (pa3_cons (pe3_var (pv 3)) pa3_nil)))) pa3_nil)) (pe3_str (l := [10]) (by decide +kernel))) pa3_nil))))) (pss3_one (ps3_ret (pe3_bm PySem.F.plainAttrs_str PySem.F.slot_str_join PySem.F.type_str_join m_join (pe3_str (l := []) (by decide +kernel)) (pa3_cons (pe3_var (pv 1)) pa3_nil))))))) vc
theorem ok_number_in (T : Txt w K mg a) {k : Nat} {sp : Sp} (mono : Mono sp) (len : ∀ ws G Q E, sp ws G Q E → ws.length = 1)
    (vc : ∀ ws G Q E, Fgt Q E → sp ws G Q E → rd_number_in a.C_InvalidCode { nx := fun _ G' => Q .non G', rt := Q, ex := fun _ => E } (startF 2 ws) G) :
    Ok3 P w K mg base (k + 1) a.f_number_in a.x_number_in ["word"] sp :=
  ok3 mono T.F_number_in sc_number_in len (fun cdv A outer s H E hr => (pss3_cons (ps3_if (PW3.pt (pw3_or (pt3_cmp (o_eq hr.units) (pe3_var (pv 0)) (pe3_str (l := []) (by decide +kernel)) (nomark _)) (pw3_or (pt3_cmp o_gt (pe3_blt b_len (by rfl) T.b_len (by decide +kernel) (pa3_cons (pe3_var (pv 0)) pa3_nil)) (pe3_kst T.k_MOST_DIGITS (by rfl)) (nomark _)) (pw3_or1 (PW3.pt (pw3_and (pt3_cmp (o_eq hr.units) (pe3_ix (x_at (hu_of hr)) (pe3_var (pv 0)) pe3_int (fun _ _ => rfl)) (pe3_str (l := [48]) (by decide +kernel)) (nomark _)) (pw3_and1 (pt3_cmp o_gt (pe3_blt b_len (by rfl) T.b_len (by decide +kernel) (pa3_cons (pe3_var (pv 0)) pa3_nil)) pe3_int (nomark _))))))))) (pss3_one (ps3_raise T.E_InvalidCode rfl (by rfl))) pss3_nil) (pss3_cons (ps3_if (PW3.pt (pw3_or (pt3_not (pt3_tru (pe3_blt (b_all rfl) (by rfl) T.b_all (by decide +kernel) (pa3_cons (pe3_lc (own := [("char", 1)]) rfl sc_number_in.nd (pi3_val (pe3_var (pv 0))) (blkOk_by (own := [("char", 1)]) (N := ["word", "char"]) (sc := defScope t_number_in) (by decide +kernel)) (fun _ _ _ _ _ => (pg3_name (i := 1) sc_number_in.nd rfl (by first | exact Or.inl rfl | exact Or.inr rfl))) (fun _ _ _ _ _ => pts3_nil) (fun _ _ _ _ _ => (pe3_cmp (o_inD (by have h := hu65 hr; exact h)) (pe3_var (pv 1)) (pe3_kst T.k_DIGITS_codetext (by rfl)) (by rfl)))) pa3_nil)))) (pw3_or1 (pt3_cmp o_ge (pe3_bty b_int (by rfl) T.b_int (by decide +kernel) (pa3_cons (pe3_var (pv 0)) pa3_nil)) (pe3_kst T.k_SIZE (by rfl)) (nomark _))))) (pss3_one (ps3_raise T.E_InvalidCode rfl (by rfl))) pss3_nil) (pss3_one (ps3_ret (pe3_bty b_int (by rfl) T.b_int (by decide +kernel) (pa3_cons (pe3_var (pv 0)) pa3_nil))))))) vc
theorem ok_item_in (T : Txt w K mg a) {k : Nat} {sp : Sp} {s_number_in : Sp} {k_number_in : Nat} (G_number_in : Ok3 P w K mg base k_number_in a.f_number_in a.x_number_in ["word"] s_number_in) (h_number_in : k_number_in ≤ k) {s_is_name : Sp} {k_is_name : Nat} (G_is_name : Ok3 P w K mg base k_is_name a.f_is_name a.x_is_name ["value"] s_is_name) (h_is_name : k_is_name ≤ k) (mono : Mono sp) (len : ∀ ws G Q E, sp ws G Q E → ws.length = 2)
    (vc : ∀ ws G Q E, Fgt Q E → sp ws G Q E → rd_item_in a.C_InvalidCode s_number_in s_is_name { nx := fun _ G' => Q .non G', rt := Q, ex := fun _ => E } (startF 2 ws) G) :
    Ok3 P w K mg base (k + 1) a.f_item_in a.x_item_in ["word", "shape"] sp :=
  ok3 mono T.F_item_in sc_item_in len (fun cdv A outer s H E hr => (pss3_cons (ps3_if (PW3.pt (pw3_and (pt3_cmp (o_eq hr.units) (pe3_var (pv 1)) (pe3_str (l := [100, 97, 116, 97]) (by decide +kernel)) (nomark _)) (pw3_and1 (pt3_cmp (o_inD (by have h := hu65 hr; exact h)) (pe3_var (pv 0)) (pe3_tup (pa3_cons (pe3_str (l := [84, 114, 117, 101]) (by decide +kernel)) (pa3_cons (pe3_str (l := [70, 97, 108, 115, 101]) (by decide +kernel)) pa3_nil))) (by rfl))))) (pss3_one (ps3_ret (pe3_cmp (o_eq hr.units) (pe3_var (pv 0)) (pe3_str (l := [84, 114, 117, 101]) (by decide +kernel)) (nomark _)))) pss3_nil) (pss3_cons (ps3_if (pt3_cmp (o_inD (by have h := hu65 hr; exact h)) (pe3_var (pv 1)) (pe3_tup (pa3_cons (pe3_str (l := [100, 97, 116, 97]) (by decide +kernel)) (pa3_cons (pe3_str (l := [110, 117, 109, 98, 101, 114]) (by decide +kernel)) pa3_nil))) (by rfl)) (pss3_one (ps3_ret (pe3_call G_number_in (hr.mono h_number_in) (by rfl) T.m_number_in T.F_number_in.kp T.B_number_in (pa3_cons (pe3_var (pv 0)) pa3_nil)))) pss3_nil) (pss3_cons (ps3_if (PW3.pt (pw3_or (PW3.pt (pw3_and (pt3_cmp (o_eq hr.units) (pe3_var (pv 1)) (pe3_str (l := [115, 105, 103, 110]) (by decide +kernel)) (nomark _)) (pw3_and1 (pt3_cmp (o_inD (by have h := hu65 hr; exact h)) (pe3_var (pv 0)) (pe3_kst T.k_SIGNS_codes (by rfl)) (by rfl))))) (pw3_or1 (PW3.pt (pw3_and (pt3_cmp (o_eq hr.units) (pe3_var (pv 1)) (pe3_str (l := [110, 97, 109, 101]) (by decide +kernel)) (nomark _)) (pw3_and1 (pt3_tru (pe3_call G_is_name (hr.mono h_is_name) (by rfl) T.m_is_name T.F_is_name.kp T.B_is_name (pa3_cons (pe3_var (pv 0)) pa3_nil))))))))) (pss3_one (ps3_ret (pe3_var (pv 0)))) pss3_nil) (pss3_one (ps3_raise T.E_InvalidCode rfl (by rfl))))))) vc
theorem ok_instruction_in (T : Txt w K mg a) {k : Nat} {sp : Sp} {s_item_in : Sp} {k_item_in : Nat} (G_item_in : Ok3 P w K mg base k_item_in a.f_item_in a.x_item_in ["word", "shape"] s_item_in) (h_item_in : k_item_in ≤ k) (mono : Mono sp) (len : ∀ ws G Q E, sp ws G Q E → ws.length = 1)
    (vc : ∀ ws G Q E, Fgt Q E → sp ws G Q E → rd_instruction_in a.C_InvalidCode s_item_in { nx := fun _ G' => Q .non G', rt := Q, ex := fun _ => E } (startF 5 ws) G) :
    Ok3 P w K mg base (k + 1) a.f_instruction_in a.x_instruction_in ["line"] sp :=
  ok3 mono T.F_instruction_in sc_instruction_in len (fun cdv A outer s H E hr => (pss3_cons (ps3_set (i := 1) sc_instruction_in.nd rfl (by first | exact Or.inl rfl | exact Or.inr rfl) (pe3_bm PySem.F.plainAttrs_str PySem.F.slot_str_split PySem.F.type_str_split m_split (pe3_var (pv 0)) (pa3_cons (pe3_str (l := [32]) (by decide +kernel)) pa3_nil))) (pss3_cons (ps3_set (i := 2) sc_instruction_in.nd rfl (by first | exact Or.inl rfl | exact Or.inr rfl) (pe3_kget T.d_SHAPES (pe3_ix (x_at (hu_of hr)) (pe3_var (pv 1)) pe3_int (fun _ _ => rfl)) (by rfl))) (pss3_cons (ps3_if (PW3.pt (pw3_or (pt3_cmp o_is (pe3_var (pv 2)) pe3_non (nomark _)) (pw3_or1 (pt3_cmp (o_ne hr.units) (pe3_blt b_len (by rfl) T.b_len (by decide +kernel) (pa3_cons (pe3_var (pv 2)) pa3_nil)) (pe3_op o_sub (pe3_blt b_len (by rfl) T.b_len (by decide +kernel) (pa3_cons (pe3_var (pv 1)) pa3_nil)) pe3_int) (nomark _))))) (pss3_one (ps3_raise T.E_InvalidCode rfl (by rfl))) pss3_nil) (pss3_one (ps3_ret (pe3_op o_add (pe3_tup (pa3_cons (pe3_ix (x_at (hu_of hr)) (pe3_var (pv 1)) pe3_int (fun _ _ => rfl)) pa3_nil)) (pe3_bty b_tuple (by rfl) T.b_tuple (by decide +kernel) (pa3_cons (pe3_lcX (own := [("word", 3), ("one", 4)]) rfl rfl rfl sc_instruction_in.nd (pi3_zipG (by rfl) T.b_zip (pa3_cons (pe3_sl (pe3_var (pv 1)) (po3_some pe3_int) po3_none) (pa3_cons (pe3_var (pv 2)) pa3_nil))) (blkOk_by (own := [("word", 3), ("one", 4)]) (N := ["line", "words", "shape", "word", "one"]) (sc := defScope t_instruction_in) (by decide +kernel)) (fun _ _ _ _ _ => (pg3_tup rfl (pgs3_cons (pg3_name (i := 3) sc_instruction_in.nd rfl (by first | exact Or.inl rfl | exact Or.inr rfl)) (pgs3_cons (pg3_name (i := 4) sc_instruction_in.nd rfl (by first | exact Or.inl rfl | exact Or.inr rfl)) pgs3_nil)))) (fun _ _ _ _ _ _ => pts3x_nil) (fun _ _ _ _ _ _ => (pe3_call G_item_in (hr.mono h_item_in) (by rfl) T.m_item_in T.F_item_in.kp T.B_item_in (pa3_cons (pe3_var (pv 3)) (pa3_cons (pe3_var (pv 4)) pa3_nil))))) pa3_nil))))))))) vc
theorem ok_parse_code (T : Txt w K mg a) {k : Nat} {sp : Sp} {s_number_in : Sp} {k_number_in : Nat} (G_number_in : Ok3 P w K mg base k_number_in a.f_number_in a.x_number_in ["word"] s_number_in) (h_number_in : k_number_in ≤ k) {s_instruction_in : Sp} {k_instruction_in : Nat} (G_instruction_in : Ok3 P w K mg base k_instruction_in a.f_instruction_in a.x_instruction_in ["line"] s_instruction_in) (h_instruction_in : k_instruction_in ≤ k) (mono : Mono sp) (len : ∀ ws G Q E, sp ws G Q E → ws.length = 1)
    (vc : ∀ ws G Q E, Fgt Q E → sp ws G Q E → rd_parse_code a.C_InvalidCode s_number_in s_instruction_in { nx := fun _ G' => Q .non G', rt := Q, ex := fun _ => E } (startF 3 ws) G) :
    Ok3 P w K mg base (k + 1) a.f_parse_code a.x_parse_code ["text"] sp :=
  ok3 mono T.F_parse_code sc_parse_code len (fun cdv A outer s H E hr => (pss3_cons (ps3_set (i := 1) sc_parse_code.nd rfl (by first | exact Or.inl rfl | exact Or.inr rfl) (pe3_bm PySem.F.plainAttrs_str PySem.F.slot_str_split PySem.F.type_str_split m_split (pe3_var (pv 0)) (pa3_cons (pe3_str (l := [10]) (by decide +kernel)) pa3_nil))) (pss3_cons (ps3_if (PW3.pt (pw3_or (pt3_cmp o_lt (pe3_blt b_len (by rfl) T.b_len (by decide +kernel) (pa3_cons (pe3_var (pv 1)) pa3_nil)) pe3_int (nomark _)) (pw3_or (pt3_cmp (o_ne hr.units) (pe3_ix (x_at (hu_of hr)) (pe3_var (pv 1)) (pe3_un u_neg pe3_int) (fun _ _ => rfl)) (pe3_str (l := []) (by decide +kernel)) (nomark _)) (pw3_or1 (pt3_cmp (o_ne hr.units) (pe3_sl (pe3_ix (x_at (hu_of hr)) (pe3_var (pv 1)) pe3_int (fun _ _ => rfl)) po3_none (po3_some pe3_int)) (pe3_str (l := [99, 111, 100, 101, 32]) (by decide +kernel)) (nomark _)))))) (pss3_one (ps3_raise T.E_InvalidCode rfl (by rfl))) pss3_nil) (pss3_one (ps3_ret (pe3_tup (pa3_cons (pe3_call G_number_in (hr.mono h_number_in) (by rfl) T.m_number_in T.F_number_in.kp T.B_number_in (pa3_cons (pe3_sl (pe3_ix (x_at (hu_of hr)) (pe3_var (pv 1)) pe3_int (fun _ _ => rfl)) (po3_some pe3_int) po3_none) pa3_nil)) (pa3_cons (pe3_bty b_tuple (by rfl) T.b_tuple (by decide +kernel) (pa3_cons (pe3_lcX (own := [("line", 2)]) rfl rfl rfl sc_parse_code.nd (pi3_val (pe3_sl (pe3_var (pv 1)) (po3_some pe3_int) (po3_some (pe3_un u_neg pe3_int)))) (blkOk_by (own := [("line", 2)]) (N := ["text", "lines", "line"]) (sc := defScope t_parse_code) (by decide +kernel)) (fun _ _ _ _ _ => (pg3_name (i := 2) sc_parse_code.nd rfl (by first | exact Or.inl rfl | exact Or.inr rfl))) (fun _ _ _ _ _ _ => pts3x_nil) (fun _ _ _ _ _ _ => (pe3_call G_instruction_in (hr.mono h_instruction_in) (by rfl) T.m_instruction_in T.F_instruction_in.kp T.B_instruction_in (pa3_cons (pe3_var (pv 2)) pa3_nil)))) pa3_nil)) pa3_nil)))))))) vc
theorem ok_law_tape (T : Txt w K mg a) {k : Nat} {sp : Sp} (mono : Mono sp) (len : ∀ ws G Q E, sp ws G Q E → ws.length = 1)
    (vc : ∀ ws G Q E, Fgt Q E → sp ws G Q E → rd_law_tape { nx := fun _ G' => Q .non G', rt := Q, ex := fun _ => E } (startF 4 ws) G) :
    Ok3 P w K mg base (k + 1) a.f_law_tape a.x_law_tape ["script"] sp :=
  ok3 mono T.F_law_tape sc_law_tape len (fun cdv A outer s H E hr => (pss3_cons (ps3_setLc (i := 1) (own := [("cell", 3)]) rfl sc_law_tape.nd rfl rfl (sw_true rfl rfl rfl (by decide +kernel)) (pi3_val (pe3_var (pv 0))) (blkOk_by (own := [("cell", 3)]) (N := ["script", "cells", "seed", "cell"]) (sc := defScope t_law_tape) (by decide +kernel)) (fun _ _ _ _ _ => (pg3_name (i := 3) sc_law_tape.nd rfl (by first | exact Or.inl rfl | exact Or.inr rfl))) (fun _ _ _ _ _ => pts3_nil) (fun _ _ _ _ _ => (pe3_blt b_abs (by rfl) T.b_abs (by decide +kernel) (pa3_cons (pe3_bty b_int (by rfl) T.b_int (by decide +kernel) (pa3_cons (pe3_var (pv 3)) pa3_nil)) pa3_nil)))) (pss3_cons (ps3_set (i := 2) sc_law_tape.nd rfl (by first | exact Or.inl rfl | exact Or.inr rfl) pe3_int) (pss3_cons (ps3_for (passes_of rfl) rfl (pi3_val (pe3_var (pv 1))) (pg3_name (i := 3) sc_law_tape.nd rfl (by first | exact Or.inl rfl | exact Or.inr rfl)) (pss3_one (ps3_set (i := 2) sc_law_tape.nd rfl (by first | exact Or.inl rfl | exact Or.inr rfl) (pe3_op o_mod (pe3_bty b_int (by rfl) T.b_int (by decide +kernel) (pa3_cons (pe3_op o_add (pe3_op o_mul (pe3_var (pv 2)) pe3_int) (pe3_var (pv 3))) pa3_nil)) pe3_int)))) (pss3_one (ps3_ret (pe3_disp (pps3_cons (pe3_str (l := [99, 101, 108, 108, 115]) (by decide +kernel)) (pe3_var (pv 1)) (pps3_cons (pe3_str (l := [97, 116]) (by decide +kernel)) pe3_int (pps3_cons (pe3_str (l := [108, 101, 102, 116]) (by decide +kernel)) pe3_int (pps3_cons (pe3_str (l := [115, 101, 101, 100]) (by decide +kernel)) (pe3_var (pv 2)) (pps3_cons (pe3_str (l := [115, 97, 108, 116]) (by decide +kernel)) pe3_int pps3_nil))))) (by rfl) (by rfl) (fun z => nomatch z) (by decide)))))))) vc
theorem ok_law_take (T : Txt w K mg a) {k : Nat} {sp : Sp} (mono : Mono sp) (len : ∀ ws G Q E, sp ws G Q E → ws.length = 2)
    (vc : ∀ ws G Q E, Fgt Q E → sp ws G Q E → rd_law_take { nx := fun _ G' => Q .non G', rt := Q, ex := fun _ => E } (startF 4 ws) G) :
    Ok3 P w K mg base (k + 1) a.f_law_take a.x_law_take ["tape", "many"] sp :=
  ok3 mono T.F_law_take sc_law_take len (fun cdv A outer s H E hr => (pss3_cons (ps3_if (PW3.pt (pw3_and (pt3_cmp (o_eq hr.units) (pe3_dget (hu_of hr) (pe3_var (pv 0)) (pe3_str (l := [108, 101, 102, 116]) (by decide +kernel)) (fun _ _ => rfl)) pe3_int (nomark _)) (pw3_and1 (pt3_cmp o_lt (pe3_dget (hu_of hr) (pe3_var (pv 0)) (pe3_str (l := [97, 116]) (by decide +kernel)) (fun _ _ => rfl)) (pe3_blt b_len (by rfl) T.b_len (by decide +kernel) (pa3_cons (pe3_dget (hu_of hr) (pe3_var (pv 0)) (pe3_str (l := [99, 101, 108, 108, 115]) (by decide +kernel)) (fun _ _ => rfl)) pa3_nil)) (nomark _))))) (pss3_cons (ps3_dput (hu_of hr) (pe3_var (pv 0)) (pe3_str (l := [108, 101, 102, 116]) (by decide +kernel)) (pe3_ix x_ix (pe3_dget (hu_of hr) (pe3_var (pv 0)) (pe3_str (l := [99, 101, 108, 108, 115]) (by decide +kernel)) (fun _ _ => rfl)) (pe3_dget (hu_of hr) (pe3_var (pv 0)) (pe3_str (l := [97, 116]) (by decide +kernel)) (fun _ _ => rfl)) (fun _ _ => rfl))) (pss3_one (ps3_dput (hu_of hr) (pe3_var (pv 0)) (pe3_str (l := [97, 116]) (by decide +kernel)) (pe3_op o_add (pe3_dget (hu_of hr) (pe3_var (pv 0)) (pe3_str (l := [97, 116]) (by decide +kernel)) (fun _ _ => rfl)) pe3_int)))) pss3_nil) (pss3_cons (ps3_if (pt3_cmp o_gt (pe3_dget (hu_of hr) (pe3_var (pv 0)) (pe3_str (l := [108, 101, 102, 116]) (by decide +kernel)) (fun _ _ => rfl)) pe3_int (nomark _)) (pss3_cons (ps3_set (i := 3) sc_law_take.nd rfl (by first | exact Or.inl rfl | exact Or.inr rfl) (pe3_op o_mod (pe3_bty b_int (by rfl) T.b_int (by decide +kernel) (pa3_cons (pe3_dget (hu_of hr) (pe3_var (pv 0)) (pe3_str (l := [108, 101, 102, 116]) (by decide +kernel)) (fun _ _ => rfl)) pa3_nil)) (pe3_var (pv 1)))) (pss3_cons (ps3_dput (hu_of hr) (pe3_var (pv 0)) (pe3_str (l := [108, 101, 102, 116]) (by decide +kernel)) (pe3_op o_div (pe3_dget (hu_of hr) (pe3_var (pv 0)) (pe3_str (l := [108, 101, 102, 116]) (by decide +kernel)) (fun _ _ => rfl)) (pe3_var (pv 1)))) (pss3_one (ps3_ret (pe3_var (pv 3)))))) pss3_nil) (pss3_cons (ps3_dput (hu_of hr) (pe3_var (pv 0)) (pe3_str (l := [115, 97, 108, 116]) (by decide +kernel)) (pe3_op o_add (pe3_dget (hu_of hr) (pe3_var (pv 0)) (pe3_str (l := [115, 97, 108, 116]) (by decide +kernel)) (fun _ _ => rfl)) pe3_int)) (pss3_cons (ps3_set (i := 2) sc_law_take.nd rfl (by first | exact Or.inl rfl | exact Or.inr rfl) (pe3_op o_mod (pe3_bty b_int (by rfl) T.b_int (by decide +kernel) (pa3_cons (pe3_op o_add (pe3_op o_mul (pe3_dget (hu_of hr) (pe3_var (pv 0)) (pe3_str (l := [115, 101, 101, 100]) (by decide +kernel)) (fun _ _ => rfl)) pe3_int) (pe3_op o_mul (pe3_dget (hu_of hr) (pe3_var (pv 0)) (pe3_str (l := [115, 97, 108, 116]) (by decide +kernel)) (fun _ _ => rfl)) pe3_int)) pa3_nil)) pe3_int)) (pss3_cons (ps3_set (i := 2) sc_law_take.nd rfl (by first | exact Or.inl rfl | exact Or.inr rfl) (pe3_op o_mod (pe3_bty b_int (by rfl) T.b_int (by decide +kernel) (pa3_cons (pe3_op o_add (pe3_op o_add (pe3_op o_mul (pe3_var (pv 2)) (pe3_var (pv 2))) (pe3_op o_mul (pe3_dget (hu_of hr) (pe3_var (pv 0)) (pe3_str (l := [115, 97, 108, 116]) (by decide +kernel)) (fun _ _ => rfl)) pe3_int)) pe3_int) pa3_nil)) pe3_int)) (pss3_one (ps3_ret (pe3_op o_mod (pe3_bty b_int (by rfl) T.b_int (by decide +kernel) (pa3_cons (pe3_var (pv 2)) pa3_nil)) (pe3_var (pv 1))))))))))) vc
theorem ok_law_is_integer (T : Txt w K mg a) {k : Nat} {sp : Sp} (mono : Mono sp) (len : ∀ ws G Q E, sp ws G Q E → ws.length = 1)
    (vc : ∀ ws G Q E, Fgt Q E → sp ws G Q E → rd_law_is_integer { nx := fun _ G' => Q .non G', rt := Q, ex := fun _ => E } (startF 1 ws) G) :
    Ok3 P w K mg base (k + 1) a.f_law_is_integer a.x_law_is_integer ["actual"] sp :=
  ok3 mono T.F_law_is_integer sc_law_is_integer len (fun cdv A outer s H E hr => (pss3_one (ps3_ret (pe3_and (pe3_blt b_isi (by rfl) T.b_isinstance (by decide +kernel) (pa3_cons (pe3_var (pv 0)) (pa3_cons (pe3_c (pe_bltn (v := .ty "int") (by rfl) T.b_int (by decide +kernel) rfl) fun _ => rty) pa3_nil))) (pe3_one (pe3_not (pe3_blt b_isi (by rfl) T.b_isinstance (by decide +kernel) (pa3_cons (pe3_var (pv 0)) (pa3_cons (pe3_c (pe_bltn (v := .ty "bool") (by rfl) T.b_bool (by decide +kernel) rfl) fun _ => rty) pa3_nil))))))))) vc
theorem ok_law_same_items (T : Txt w K mg a) {k : Nat} {sp : Sp} {s_law_same : Sp} {k_law_same : Nat} (G_law_same : Ok3 P w K mg base k_law_same a.f_law_same a.x_law_same ["actual", "expected"] s_law_same) (h_law_same : k_law_same ≤ k) (mono : Mono sp) (len : ∀ ws G Q E, sp ws G Q E → ws.length = 2)
    (vc : ∀ ws G Q E, Fgt Q E → sp ws G Q E → rd_law_same_items s_law_same { nx := fun _ G' => Q .non G', rt := Q, ex := fun _ => E } (startF 3 ws) G) :
    Ok3 P w K mg base (k + 1) a.f_law_same_items a.x_law_same_items ["actual", "expected"] sp :=
  ok3 mono T.F_law_same_items sc_law_same_items len (fun cdv A outer s H E hr => (pss3_cons (ps3_if (pt3_cmp (o_ne hr.units) (pe3_blt b_len (by rfl) T.b_len (by decide +kernel) (pa3_cons (pe3_var (pv 0)) pa3_nil)) (pe3_blt b_len (by rfl) T.b_len (by decide +kernel) (pa3_cons (pe3_var (pv 1)) pa3_nil)) (nomark _)) (pss3_one (ps3_ret pe3_bl)) pss3_nil) (pss3_cons (ps3_for (passes_of rfl) rfl (pi3_range1 (by rfl) T.b_range (pa3_cons (pe3_blt b_len (by rfl) T.b_len (by decide +kernel) (pa3_cons (pe3_var (pv 1)) pa3_nil)) pa3_nil)) (pg3_name (i := 2) sc_law_same_items.nd rfl (by first | exact Or.inl rfl | exact Or.inr rfl)) (pss3_one (ps3_if (pt3_not (pt3_tru (pe3_call G_law_same (hr.mono h_law_same) (by rfl) T.m_law_same T.F_law_same.kp T.B_law_same (pa3_cons (pe3_ix x_ix (pe3_var (pv 0)) (pe3_var (pv 2)) (fun _ _ => rfl)) (pa3_cons (pe3_ix x_ix (pe3_var (pv 1)) (pe3_var (pv 2)) (fun _ _ => rfl)) pa3_nil))))) (pss3_one (ps3_ret pe3_bl)) pss3_nil))) (pss3_one (ps3_ret pe3_bl))))) vc
theorem ok_law_same (T : Txt w K mg a) {k : Nat} {sp : Sp} {s_law_is_integer : Sp} {k_law_is_integer : Nat} (G_law_is_integer : Ok3 P w K mg base k_law_is_integer a.f_law_is_integer a.x_law_is_integer ["actual"] s_law_is_integer) (h_law_is_integer : k_law_is_integer ≤ k) {s_law_same_items : Sp} {k_law_same_items : Nat} (G_law_same_items : Ok3 P w K mg base k_law_same_items a.f_law_same_items a.x_law_same_items ["actual", "expected"] s_law_same_items) (h_law_same_items : k_law_same_items ≤ k) {s_law_same : Sp} {k_law_same : Nat} (G_law_same : Ok3 P w K mg base k_law_same a.f_law_same a.x_law_same ["actual", "expected"] s_law_same) (h_law_same : k_law_same ≤ k) (mono : Mono sp) (len : ∀ ws G Q E, sp ws G Q E → ws.length = 2)
    (vc : ∀ ws G Q E, Fgt Q E → sp ws G Q E → rd_law_same s_law_is_integer s_law_same_items s_law_same { nx := fun _ G' => Q .non G', rt := Q, ex := fun _ => E } (startF 3 ws) G) :
    Ok3 P w K mg base (k + 1) a.f_law_same a.x_law_same ["actual", "expected"] sp :=
  ok3 mono T.F_law_same sc_law_same len (fun cdv A outer s H E hr => (pss3_cons (ps3_if (pt3_cmp o_is (pe3_var (pv 1)) pe3_non (nomark _)) (pss3_one (ps3_ret (pe3_cmp o_is (pe3_var (pv 0)) pe3_non (nomark _)))) pss3_nil) (pss3_cons (ps3_if (pt3_tru (pe3_blt b_isi (by rfl) T.b_isinstance (by decide +kernel) (pa3_cons (pe3_var (pv 1)) (pa3_cons (pe3_c (pe_bltn (v := .ty "bool") (by rfl) T.b_bool (by decide +kernel) rfl) fun _ => rty) pa3_nil)))) (pss3_one (ps3_ret (pe3_and (pe3_blt b_isi (by rfl) T.b_isinstance (by decide +kernel) (pa3_cons (pe3_var (pv 0)) (pa3_cons (pe3_c (pe_bltn (v := .ty "bool") (by rfl) T.b_bool (by decide +kernel) rfl) fun _ => rty) pa3_nil))) (pe3_one (pe3_cmp (o_eq hr.units) (pe3_var (pv 0)) (pe3_var (pv 1)) (nomark _)))))) pss3_nil) (pss3_cons (ps3_if (pt3_tru (pe3_blt b_isi (by rfl) T.b_isinstance (by decide +kernel) (pa3_cons (pe3_var (pv 1)) (pa3_cons (pe3_c (pe_bltn (v := .ty "int") (by rfl) T.b_int (by decide +kernel) rfl) fun _ => rty) pa3_nil)))) (pss3_one (ps3_ret (pe3_and (pe3_call G_law_is_integer (hr.mono h_law_is_integer) (by rfl) T.m_law_is_integer T.F_law_is_integer.kp T.B_law_is_integer (pa3_cons (pe3_var (pv 0)) pa3_nil)) (pe3_one (pe3_cmp (o_eq hr.units) (pe3_var (pv 0)) (pe3_var (pv 1)) (nomark _)))))) pss3_nil) (pss3_cons (ps3_if (pt3_tru (pe3_blt b_isi (by rfl) T.b_isinstance (by decide +kernel) (pa3_cons (pe3_var (pv 1)) (pa3_cons (pe3_c (pe_bltn (v := .ty "str") (by rfl) T.b_str (by decide +kernel) rfl) fun _ => rty) pa3_nil)))) (pss3_one (ps3_ret (pe3_and (pe3_blt b_isi (by rfl) T.b_isinstance (by decide +kernel) (pa3_cons (pe3_var (pv 0)) (pa3_cons (pe3_c (pe_bltn (v := .ty "str") (by rfl) T.b_str (by decide +kernel) rfl) fun _ => rty) pa3_nil))) (pe3_one (pe3_cmp (o_eq hr.units) (pe3_var (pv 0)) (pe3_var (pv 1)) (nomark _)))))) pss3_nil) (pss3_cons (ps3_if (pt3_tru (pe3_blt b_isi (by rfl) T.b_isinstance (by decide +kernel) (pa3_cons (pe3_var (pv 1)) (pa3_cons (pe3_c (pe_bltn (v := .ty "tuple") (by rfl) T.b_tuple (by decide +kernel) rfl) fun _ => rty) pa3_nil)))) (pss3_one (ps3_ret (pe3_and (pe3_blt b_isi (by rfl) T.b_isinstance (by decide +kernel) (pa3_cons (pe3_var (pv 0)) (pa3_cons (pe3_c (pe_bltn (v := .ty "tuple") (by rfl) T.b_tuple (by decide +kernel) rfl) fun _ => rty) pa3_nil))) (pe3_one (pe3_call G_law_same_items (hr.mono h_law_same_items) (by rfl) T.m_law_same_items T.F_law_same_items.kp T.B_law_same_items (pa3_cons (pe3_var (pv 0)) (pa3_cons (pe3_var (pv 1)) pa3_nil))))))) pss3_nil) (pss3_cons (ps3_if (pt3_tru (pe3_blt b_isi (by rfl) T.b_isinstance (by decide +kernel) (pa3_cons (pe3_var (pv 1)) (pa3_cons (pe3_c (pe_bltn (v := .ty "list") (by rfl) T.b_list (by decide +kernel) rfl) fun _ => rty) pa3_nil)))) (pss3_one (ps3_ret (pe3_and (pe3_blt b_isi (by rfl) T.b_isinstance (by decide +kernel) (pa3_cons (pe3_var (pv 0)) (pa3_cons (pe3_c (pe_bltn (v := .ty "list") (by rfl) T.b_list (by decide +kernel) rfl) fun _ => rty) pa3_nil))) (pe3_one (pe3_call G_law_same_items (hr.mono h_law_same_items) (by rfl) T.m_law_same_items T.F_law_same_items.kp T.B_law_same_items (pa3_cons (pe3_var (pv 0)) (pa3_cons (pe3_var (pv 1)) pa3_nil))))))) pss3_nil) (pss3_cons (ps3_if (PW3.pt (pw3_or (pt3_not (pt3_tru (pe3_blt b_isi (by rfl) T.b_isinstance (by decide +kernel) (pa3_cons (pe3_var (pv 0)) (pa3_cons (pe3_c (pe_bltn (v := .ty "dict") (by rfl) T.b_dict (by decide +kernel) rfl) fun _ => rty) pa3_nil))))) (pw3_or1 (pt3_cmp (o_ne hr.units) (pe3_blt b_len (by rfl) T.b_len (by decide +kernel) (pa3_cons (pe3_var (pv 0)) pa3_nil)) (pe3_blt b_len (by rfl) T.b_len (by decide +kernel) (pa3_cons (pe3_var (pv 1)) pa3_nil)) (nomark _))))) (pss3_one (ps3_ret pe3_bl)) pss3_nil) (pss3_cons (ps3_for (passes_of rfl) rfl (pi3_val (pe3_var (pv 1))) (pg3_name (i := 2) sc_law_same.nd rfl (by first | exact Or.inl rfl | exact Or.inr rfl)) (pss3_one (ps3_if (PW3.pt (pw3_or (pt3_cmp (o_notin (by have h := hu65 hr; exact h)) (pe3_var (pv 2)) (pe3_var (pv 0)) (by rfl)) (pw3_or1 (pt3_not (pt3_tru (pe3_call G_law_same (hr.mono h_law_same) (by rfl) T.m_law_same T.F_law_same.kp T.B_law_same (pa3_cons (pe3_ix x_ix (pe3_var (pv 0)) (pe3_var (pv 2)) (fun _ _ => rfl)) (pa3_cons (pe3_ix x_ix (pe3_var (pv 1)) (pe3_var (pv 2)) (fun _ _ => rfl)) pa3_nil)))))))) (pss3_one (ps3_ret pe3_bl)) pss3_nil))) (pss3_cons (ps3_for (passes_of rfl) rfl (pi3_val (pe3_var (pv 0))) (pg3_name (i := 2) sc_law_same.nd rfl (by first | exact Or.inl rfl | exact Or.inr rfl)) (pss3_one (ps3_if (pt3_tru (pe3_blt b_isi (by rfl) T.b_isinstance (by decide +kernel) (pa3_cons (pe3_var (pv 2)) (pa3_cons (pe3_c (pe_bltn (v := .ty "bool") (by rfl) T.b_bool (by decide +kernel) rfl) fun _ => rty) pa3_nil)))) (pss3_one (ps3_ret pe3_bl)) pss3_nil))) (pss3_one (ps3_ret pe3_bl)))))))))))) vc
theorem ok_law_row (T : Txt w K mg a) {k : Nat} {sp : Sp} {s_law_take : Sp} {k_law_take : Nat} (G_law_take : Ok3 P w K mg base k_law_take a.f_law_take a.x_law_take ["tape", "many"] s_law_take) (h_law_take : k_law_take ≤ k) (mono : Mono sp) (len : ∀ ws G Q E, sp ws G Q E → ws.length = 1)
    (vc : ∀ ws G Q E, Fgt Q E → sp ws G Q E → rd_law_row s_law_take { nx := fun _ G' => Q .non G', rt := Q, ex := fun _ => E } (startF 4 ws) G) :
    Ok3 P w K mg base (k + 1) a.f_law_row a.x_law_row ["tape"] sp :=
  ok3 mono T.F_law_row sc_law_row len (fun cdv A outer s H E hr => (pss3_cons (ps3_set (i := 1) sc_law_row.nd rfl (by first | exact Or.inl rfl | exact Or.inr rfl) (pe3_ix (x_at (hu_of hr)) (pe3_lst (pa3_csc pe3_int (pa3_csc pe3_int (pa3_csc pe3_int (pa3_csc pe3_int (pa3_csc pe3_int pa3_csn)))))) (pe3_call G_law_take (hr.mono h_law_take) (by rfl) T.m_law_take T.F_law_take.kp T.B_law_take (pa3_cons (pe3_var (pv 0)) (pa3_cons pe3_int pa3_nil))) (fun _ _ => rfl))) (pss3_cons (ps3_set (i := 2) sc_law_row.nd rfl (by first | exact Or.inl rfl | exact Or.inr rfl) (pe3_ix (x_at (hu_of hr)) (pe3_lst (pa3_csc (pe3_str (l := [97]) (by decide +kernel)) (pa3_csc (pe3_str (l := [66, 57, 95]) (by decide +kernel)) (pa3_csc (pe3_str (l := [120, 49]) (by decide +kernel)) pa3_csn)))) (pe3_call G_law_take (hr.mono h_law_take) (by rfl) T.m_law_take T.F_law_take.kp T.B_law_take (pa3_cons (pe3_var (pv 0)) (pa3_cons pe3_int pa3_nil))) (fun _ _ => rfl))) (pss3_cons (ps3_set (i := 3) sc_law_row.nd rfl (by first | exact Or.inl rfl | exact Or.inr rfl) (pe3_lst (pa3_cons (pe3_tup (pa3_cons (pe3_str (l := [112, 117, 115, 104]) (by decide +kernel)) (pa3_cons (pe3_var (pv 1)) pa3_nil))) (pa3_cons (pe3_tup (pa3_cons (pe3_str (l := [112, 117, 115, 104]) (by decide +kernel)) (pa3_cons (pe3_cmp (o_eq hr.units) (pe3_call G_law_take (hr.mono h_law_take) (by rfl) T.m_law_take T.F_law_take.kp T.B_law_take (pa3_cons (pe3_var (pv 0)) (pa3_cons pe3_int pa3_nil))) pe3_int (nomark _)) pa3_nil))) (pa3_cons (pe3_tup (pa3_cons (pe3_str (l := [108, 111, 97, 100]) (by decide +kernel)) (pa3_cons (pe3_var (pv 1)) pa3_nil))) (pa3_cons (pe3_tup (pa3_cons (pe3_str (l := [115, 116, 111, 114, 101]) (by decide +kernel)) (pa3_cons (pe3_var (pv 1)) pa3_nil))) (pa3_cons (pe3_tup (pa3_cons (pe3_str (l := [115, 105, 103, 110]) (by decide +kernel)) (pa3_cons (pe3_ix (x_at (hu_of hr)) (pe3_lst (pa3_csc (pe3_str (l := [43]) (by decide +kernel)) (pa3_csc (pe3_str (l := [45]) (by decide +kernel)) (pa3_csc (pe3_str (l := [42]) (by decide +kernel)) (pa3_csc (pe3_str (l := [47]) (by decide +kernel)) (pa3_csc (pe3_str (l := [61, 61]) (by decide +kernel)) (pa3_csc (pe3_str (l := [60]) (by decide +kernel)) pa3_csn))))))) (pe3_call G_law_take (hr.mono h_law_take) (by rfl) T.m_law_take T.F_law_take.kp T.B_law_take (pa3_cons (pe3_var (pv 0)) (pa3_cons pe3_int pa3_nil))) (fun _ _ => rfl)) pa3_nil))) (pa3_cons (pe3_tup (pa3_cons (pe3_str (l := [110, 111, 116]) (by decide +kernel)) pa3_nil)) (pa3_cons (pe3_tup (pa3_cons (pe3_str (l := [109, 105, 110, 117, 115]) (by decide +kernel)) pa3_nil)) (pa3_cons (pe3_tup (pa3_cons (pe3_str (l := [106, 117, 109, 112]) (by decide +kernel)) (pa3_cons (pe3_var (pv 1)) pa3_nil))) (pa3_cons (pe3_tup (pa3_cons (pe3_str (l := [117, 110, 108, 101, 115, 115]) (by decide +kernel)) (pa3_cons (pe3_var (pv 1)) pa3_nil))) (pa3_cons (pe3_tup (pa3_cons (pe3_str (l := [109, 97, 107, 101]) (by decide +kernel)) (pa3_cons (pe3_var (pv 2)) (pa3_cons (pe3_str (l := [68]) (by decide +kernel)) (pa3_cons (pe3_var (pv 1)) pa3_nil))))) (pa3_cons (pe3_tup (pa3_cons (pe3_str (l := [102, 105, 101, 108, 100]) (by decide +kernel)) (pa3_cons (pe3_var (pv 2)) pa3_nil))) (pa3_cons (pe3_tup (pa3_cons (pe3_str (l := [99, 97, 108, 108]) (by decide +kernel)) (pa3_cons (pe3_var (pv 2)) (pa3_cons (pe3_var (pv 1)) (pa3_cons pe3_int pa3_nil))))) (pa3_cons (pe3_tup (pa3_cons (pe3_str (l := [109, 101, 116, 104, 111, 100]) (by decide +kernel)) (pa3_cons (pe3_var (pv 2)) (pa3_cons pe3_int (pa3_cons (pe3_var (pv 1)) pa3_nil))))) pa3_nil))))))))))))))) (pss3_one (ps3_ret (pe3_ix (x_at (hu_of hr)) (pe3_var (pv 3)) (pe3_call G_law_take (hr.mono h_law_take) (by rfl) T.m_law_take T.F_law_take.kp T.B_law_take (pa3_cons (pe3_var (pv 0)) (pa3_cons pe3_int pa3_nil))) (fun _ _ => rfl)))))))) vc
theorem ok_law_is_refused (T : Txt w K mg a) {k : Nat} {sp : Sp} {s_parse_code : Sp} {k_parse_code : Nat} (G_parse_code : Ok3 P w K mg base k_parse_code a.f_parse_code a.x_parse_code ["text"] s_parse_code) (h_parse_code : k_parse_code ≤ k) (mono : Mono sp) (len : ∀ ws G Q E, sp ws G Q E → ws.length = 1)
    (vc : ∀ ws G Q E, Fgt Q E → sp ws G Q E → rd_law_is_refused a.C_InvalidCode s_parse_code { nx := fun _ G' => Q .non G', rt := Q, ex := fun _ => E } (startF 1 ws) G) :
    Ok3 P w K mg base (k + 1) a.f_law_is_refused a.x_law_is_refused ["text"] sp :=
  ok3 mono T.F_law_is_refused sc_law_is_refused len (fun cdv A outer s H E hr => (pss3_cons (ps3_try T.E_InvalidCode rfl rfl (by rfl) (fun pn xe hp => (pss3_one (ps3_expr (pe3_call G_parse_code (hr.mono h_parse_code) (by rfl) T.m_parse_code T.F_parse_code.kp T.B_parse_code (pa3_cons (pe3_var (pv 0)) pa3_nil))))) (fun a pn hot => (pss3_one (ps3_ret pe3_bl)))) (pss3_one (ps3_ret pe3_bl)))) vc
theorem ok_law (T : Txt w K mg a) {k : Nat} {sp : Sp} {s_law_tape : Sp} {k_law_tape : Nat} (G_law_tape : Ok3 P w K mg base k_law_tape a.f_law_tape a.x_law_tape ["script"] s_law_tape) (h_law_tape : k_law_tape ≤ k) {s_law_take : Sp} {k_law_take : Nat} (G_law_take : Ok3 P w K mg base k_law_take a.f_law_take a.x_law_take ["tape", "many"] s_law_take) (h_law_take : k_law_take ≤ k) {s_law_row : Sp} {k_law_row : Nat} (G_law_row : Ok3 P w K mg base k_law_row a.f_law_row a.x_law_row ["tape"] s_law_row) (h_law_row : k_law_row ≤ k) {s_format_code : Sp} {k_format_code : Nat} (G_format_code : Ok3 P w K mg base k_format_code a.f_format_code a.x_format_code ["code"] s_format_code) (h_format_code : k_format_code ≤ k) {s_law_same : Sp} {k_law_same : Nat} (G_law_same : Ok3 P w K mg base k_law_same a.f_law_same a.x_law_same ["actual", "expected"] s_law_same) (h_law_same : k_law_same ≤ k) {s_parse_code : Sp} {k_parse_code : Nat} (G_parse_code : Ok3 P w K mg base k_parse_code a.f_parse_code a.x_parse_code ["text"] s_parse_code) (h_parse_code : k_parse_code ≤ k) {s_law_is_refused : Sp} {k_law_is_refused : Nat} (G_law_is_refused : Ok3 P w K mg base k_law_is_refused a.f_law_is_refused a.x_law_is_refused ["text"] s_law_is_refused) (h_law_is_refused : k_law_is_refused ≤ k) (mono : Mono sp) (len : ∀ ws G Q E, sp ws G Q E → ws.length = 1)
    (vc : ∀ ws G Q E, Fgt Q E → sp ws G Q E → rd_law s_law_tape s_law_take s_law_row s_format_code s_law_same s_parse_code s_law_is_refused { nx := fun _ G' => Q .non G', rt := Q, ex := fun _ => E } (startF 11 ws) G) :
    Ok3 P w K mg base (k + 1) a.f_law a.x_law ["script"] sp :=
  ok3 mono T.F_law sc_law len (fun cdv A outer s H E hr => (pss3_cons (ps3_set (i := 1) sc_law.nd rfl (by first | exact Or.inl rfl | exact Or.inr rfl) (pe3_call G_law_tape (hr.mono h_law_tape) (by rfl) T.m_law_tape T.F_law_tape.kp T.B_law_tape (pa3_cons (pe3_var (pv 0)) pa3_nil))) (pss3_cons (ps3_set (i := 2) sc_law.nd rfl (by first | exact Or.inl rfl | exact Or.inr rfl) (pe3_tup (pa3_cons (pe3_call G_law_take (hr.mono h_law_take) (by rfl) T.m_law_take T.F_law_take.kp T.B_law_take (pa3_cons (pe3_var (pv 1)) (pa3_cons pe3_int pa3_nil))) (pa3_cons (pe3_bty b_tuple (by rfl) T.b_tuple (by decide +kernel) (pa3_cons (pe3_lc (own := [("k", 7)]) rfl sc_law.nd (pi3_range1 (by rfl) T.b_range (pa3_cons (pe3_op o_add pe3_int (pe3_call G_law_take (hr.mono h_law_take) (by rfl) T.m_law_take T.F_law_take.kp T.B_law_take (pa3_cons (pe3_var (pv 1)) (pa3_cons pe3_int pa3_nil)))) pa3_nil)) (blkOk_by (own := [("k", 7)]) (N := ["script", "tape", "code", "lines", "text", "at", "wrong", "k", "row", "line", "item"]) (sc := defScope t_law) (by decide +kernel)) (fun _ _ _ _ _ => (pg3_name (i := 7) sc_law.nd rfl (by first | exact Or.inl rfl | exact Or.inr rfl))) (fun _ _ _ _ _ => pts3_nil) (fun _ _ _ _ _ => (pe3_call G_law_row (hr.mono h_law_row) (by rfl) T.m_law_row T.F_law_row.kp T.B_law_row (pa3_cons (pe3_var (pv 1)) pa3_nil)))) pa3_nil)) pa3_nil)))) (pss3_cons (ps3_set (i := 3) sc_law.nd rfl (by first | exact Or.inl rfl | exact Or.inr rfl) (pe3_op o_add (pe3_lst (pa3_cons (pe3_op o_add (pe3_str (l := [99, 111, 100, 101, 32]) (by decide +kernel)) (pe3_bty b_str (by rfl) T.b_str (by decide +kernel) (pa3_cons (pe3_ix (x_at (hu_of hr)) (pe3_var (pv 2)) pe3_int (fun _ _ => rfl)) pa3_nil))) pa3_nil)) (pe3_lc (own := [("row", 8)]) rfl sc_law.nd (pi3_val (pe3_ix (x_at (hu_of hr)) (pe3_var (pv 2)) pe3_int (fun _ _ => rfl))) (blkOk_by (own := [("row", 8)]) (N := ["script", "tape", "code", "lines", "text", "at", "wrong", "k", "row", "line", "item"]) (sc := defScope t_law) (by decide +kernel)) (fun _ _ _ _ _ => (pg3_name (i := 8) sc_law.nd rfl (by first | exact Or.inl rfl | exact Or.inr rfl))) (fun _ _ _ _ _ => pts3_nil) (fun _ _ _ _ _ => (pe3_bm PySem.F.plainAttrs_str PySem.F.slot_str_join PySem.F.type_str_join m_join (pe3_str (l := [32]) (by decide +kernel)) (pa3_cons (pe3_lc (own := [("item", 10)]) rfl sc_law.nd (pi3_val (pe3_var (pv 8))) (blkOk_by (by kernel_rfl)) (fun _ _ _ _ _ => (pg3_name (i := 10) sc_law.nd rfl (by first | exact Or.inl rfl | exact Or.inr rfl))) (fun _ _ _ _ _ => pts3_nil) (fun _ _ _ _ _ => (pe3_bty b_str (by rfl) T.b_str (by decide +kernel) (pa3_cons (pe3_var (pv 10)) pa3_nil)))) pa3_nil)))))) (pss3_cons (ps3_set (i := 4) sc_law.nd rfl (by first | exact Or.inl rfl | exact Or.inr rfl) (pe3_bm PySem.F.plainAttrs_str PySem.F.slot_str_join PySem.F.type_str_join m_join (pe3_str (l := []) (by decide +kernel)) (pa3_cons (pe3_lc (own := [("line", 9)]) rfl sc_law.nd (pi3_val (pe3_var (pv 3))) (blkOk_by (own := [("line", 9)]) (N := ["script", "tape", "code", "lines", "text", "at", "wrong", "k", "row", "line", "item"]) (sc := defScope t_law) (by decide +kernel)) (fun _ _ _ _ _ => (pg3_name (i := 9) sc_law.nd rfl (by first | exact Or.inl rfl | exact Or.inr rfl))) (fun _ _ _ _ _ => pts3_nil) (fun _ _ _ _ _ => (pe3_op o_add (pe3_var (pv 9)) (pe3_str (l := [10]) (by decide +kernel))))) pa3_nil))) (pss3_cons (ps3_if (PW3.pt (pw3_or (pt3_cmp (o_ne hr.units) (pe3_call G_format_code (hr.mono h_format_code) (by rfl) T.m_format_code T.F_format_code.kp T.B_format_code (pa3_cons (pe3_var (pv 2)) pa3_nil)) (pe3_var (pv 4)) (nomark _)) (pw3_or1 (pt3_not (pt3_tru (pe3_call G_law_same (hr.mono h_law_same) (by rfl) T.m_law_same T.F_law_same.kp T.B_law_same (pa3_cons (pe3_call G_parse_code (hr.mono h_parse_code) (by rfl) T.m_parse_code T.F_parse_code.kp T.B_parse_code (pa3_cons (pe3_var (pv 4)) pa3_nil)) (pa3_cons (pe3_var (pv 2)) pa3_nil)))))))) (pss3_one (ps3_ret pe3_bl)) pss3_nil) (pss3_cons (ps3_set (i := 5) sc_law.nd rfl (by first | exact Or.inl rfl | exact Or.inr rfl) (pe3_call G_law_take (hr.mono h_law_take) (by rfl) T.m_law_take T.F_law_take.kp T.B_law_take (pa3_cons (pe3_var (pv 1)) (pa3_cons (pe3_blt b_len (by rfl) T.b_len (by decide +kernel) (pa3_cons (pe3_var (pv 3)) pa3_nil)) pa3_nil)))) (pss3_cons (ps3_set (i := 6) sc_law.nd rfl (by first | exact Or.inl rfl | exact Or.inr rfl) (pe3_lst (pa3_cons (pe3_sl (pe3_var (pv 4)) po3_none (po3_some (pe3_un u_neg pe3_int))) (pa3_cons (pe3_op o_add (pe3_var (pv 4)) (pe3_str (l := [10]) (by decide +kernel))) (pa3_cons (pe3_op o_add (pe3_str (l := [120]) (by decide +kernel)) (pe3_var (pv 4))) (pa3_cons (pe3_op o_add (pe3_var (pv 4)) (pe3_str (l := [112, 117, 115, 104, 10]) (by decide +kernel))) (pa3_cons (pe3_op o_add (pe3_var (pv 4)) (pe3_str (l := [112, 117, 115, 104, 32, 48, 49, 10]) (by decide +kernel))) (pa3_cons (pe3_op o_add (pe3_var (pv 4)) (pe3_str (l := [112, 117, 115, 104, 32, 45, 49, 10]) (by decide +kernel))) (pa3_cons (pe3_op o_add (pe3_var (pv 4)) (pe3_str (l := [112, 117, 115, 104, 32, 116, 114, 117, 101, 10]) (by decide +kernel))) (pa3_cons (pe3_op o_add (pe3_var (pv 4)) (pe3_str (l := [115, 105, 103, 110, 32, 97, 110, 100, 10]) (by decide +kernel))) (pa3_cons (pe3_op o_add (pe3_var (pv 4)) (pe3_str (l := [112, 117, 115, 104, 32, 52, 50, 57, 52, 57, 54, 55, 50, 57, 54, 10]) (by decide +kernel))) (pa3_cons (pe3_op o_add (pe3_var (pv 4)) (pe3_str (l := [110, 111, 116, 32, 49, 10]) (by decide +kernel))) (pa3_cons (pe3_op o_add (pe3_var (pv 4)) (pe3_str (l := [109, 97, 107, 101, 32, 97, 32, 68, 10]) (by decide +kernel))) (pa3_cons (pe3_op o_add (pe3_var (pv 4)) (pe3_str (l := [109, 97, 107, 101, 32, 97, 32, 105, 102, 32, 49, 10]) (by decide +kernel))) (pa3_cons (pe3_op o_add (pe3_var (pv 4)) (pe3_str (l := [99, 97, 108, 108, 32, 49, 32, 49, 32, 49, 10]) (by decide +kernel))) (pa3_cons (pe3_op o_add (pe3_var (pv 4)) (pe3_str (l := [112, 111, 112, 10]) (by decide +kernel))) (pa3_cons (pe3_op o_add (pe3_var (pv 4)) (pe3_str (l := [108, 111, 97, 100, 32, 49, 32, 10]) (by decide +kernel))) (pa3_cons (pe3_op o_add (pe3_var (pv 4)) (pe3_str (l := [32, 108, 111, 97, 100, 32, 49, 10]) (by decide +kernel))) (pa3_cons (pe3_op o_add (pe3_var (pv 4)) (pe3_str (l := [108, 111, 97, 100, 32, 32, 49, 10]) (by decide +kernel))) (pa3_cons (pe3_str (l := [99, 111, 100, 101, 32, 120, 10, 110, 111, 116, 10]) (by decide +kernel)) (pa3_cons (pe3_str (l := [99, 111, 100, 101, 32, 49, 10]) (by decide +kernel)) (pa3_cons (pe3_str (l := [99, 111, 100, 101, 10, 110, 111, 116, 10]) (by decide +kernel)) (pa3_cons (pe3_str (l := []) (by decide +kernel)) (pa3_cons (pe3_str (l := [99, 111, 100, 101, 32, 49]) (by decide +kernel)) (pa3_cons (pe3_if (pt3_cmp o_gt (pe3_var (pv 5)) pe3_int (nomark _)) (pe3_op o_add (pe3_op o_add (pe3_ix (x_at (hu_of hr)) (pe3_var (pv 3)) (pe3_var (pv 5)) (fun _ _ => rfl)) (pe3_str (l := [10]) (by decide +kernel))) (pe3_var (pv 4))) (pe3_op o_add (pe3_str (l := [110, 111, 116, 10]) (by decide +kernel)) (pe3_var (pv 4)))) (pa3_cons (pe3_op o_add (pe3_var (pv 4)) (pe3_str (l := [102, 105, 101, 108, 100, 32, 49, 97, 10]) (by decide +kernel))) (pa3_cons (pe3_op o_add (pe3_var (pv 4)) (pe3_str (l := [106, 117, 109, 112, 32, 52, 50, 57, 52, 57, 54, 55, 50, 57, 54, 10]) (by decide +kernel))) pa3_nil))))))))))))))))))))))))))) (pss3_cons (ps3_for (passes_of rfl) rfl (pi3_range1 (by rfl) T.b_range (pa3_cons pe3_int pa3_nil)) (pg3_name (i := 7) sc_law.nd rfl (by first | exact Or.inl rfl | exact Or.inr rfl)) (pss3_one (ps3_if (pt3_not (pt3_tru (pe3_call G_law_is_refused (hr.mono h_law_is_refused) (by rfl) T.m_law_is_refused T.F_law_is_refused.kp T.B_law_is_refused (pa3_cons (pe3_ix (x_at (hu_of hr)) (pe3_var (pv 6)) (pe3_call G_law_take (hr.mono h_law_take) (by rfl) T.m_law_take T.F_law_take.kp T.B_law_take (pa3_cons (pe3_var (pv 1)) (pa3_cons pe3_int pa3_nil))) (fun _ _ => rfl)) pa3_nil)))) (pss3_one (ps3_ret pe3_bl)) pss3_nil))) (pss3_one (ps3_ret pe3_bl))))))))))) vc
end
end L3.Lw

end
section
set_option autoImplicit false
namespace L3.Lw
open PySem PySem.Spec PyProof.Rows L2 L3
theorem ints_rep {K : PySem.W.Frag} {H : Hp} : ∀ ns : List Int, RepL K H (ns.map W.int) (ns.map V.int)
  | [] => .nil
  | n :: r => by
    rw [List.map_cons, List.map_cons]
    exact .cons (by simp only [Rep]) (ints_rep r)
theorem low_law {K : PySem.W.Frag} {H : Hp} {a : Addr} {ns : List Int} (hl : ns.length ≤ 63) (ho : L2.Only H) (hS : SqL K H a (ns.map V.int)) : low K sp_law [V.ref a] H (fun v _ => v = V.bl true) (fun _ _ _ => False) := by
  have fin : ∀ (G : Gh) (x : W), Rep K H x (.ref a) → Rel K H G → scriptW G x ns → low K sp_law [V.ref a] H (fun v _ => v = V.bl true) (fun _ _ _ => False) := fun G x rv r hs =>
    ⟨[x], G, fun w _ => w = .bl true, fun _ _ _ => False, .one rv, r, ⟨ns, ⟨hs, hl⟩, fun _ => rfl⟩, fun v H' w G' _ _ rw hw => by subst hw; exact rep_bl rw, fun _ _ _ _ _ _ _ z => z⟩
  rcases hS with (h | ⟨o, h⟩) | h
  · rcases ho a with z | ⟨o, xs, z⟩ <;> (rw [z] at h; cases h)
  · refine fin (up (fun _ => none) a (.rdl (ns.map W.int))) (.ref a) (by simp only [Rep]) ?_ (.inr ⟨a, rfl, up_same⟩)
    intro b u e
    by_cases hb : b = a
    · subst hb
      rw [up_same] at e
      cases e
      exact ⟨o, _, h, ints_rep ns⟩
    · rw [up_ne hb] at e
      cases e
  · refine fin (fun _ => none) (.kl (ns.map W.int)) ?_ (fun _ _ e => nomatch e) (.inl rfl)
    simp only [Rep]
    exact ⟨a, _, rfl, .inr h, ints_rep ns⟩

theorem ok_never {P : Program} {w : World} {K : PySem.W.Frag} {mg : Str → Option Value} {base : Heap} {f : Addr} {fd : FuncData} {ps : List Str} : Ok3 P w K mg base 0 f fd ps (fun _ _ _ _ => False) where
  len := fun _ _ _ _ h => by
    obtain ⟨_, _, _, _, _, _, z, _⟩ := h
    exact z.elim
  run := fun A stack s H as vs us Q E _ _ _ _ h => by
    obtain ⟨_, _, _, _, _, _, z, _⟩ := h
    exact z.elim
theorem same_ok {P : Program} {w : World} {K : PySem.W.Frag} {mg : Str → Option Value} {base : Heap} {a : Ad} (T : Txt w K mg a) : ∀ n, Ok3 P w K mg base (2 * n + 2) a.f_law_same a.x_law_same ["actual", "expected"] (sp_same n)
  | 0 => ok_law_same (k := 1) T (ok_law_is_integer (k := 0) T mono_isint len_isint vc_isint) (Nat.le_refl _) ok_never (Nat.zero_le _) ok_never (Nat.zero_le _) (mono_same 0) (len_same 0) fun ws G Q E fg h => vc_same0 ws G Q E fg _ h _
  | n + 1 => ok_law_same (k := 2 * n + 3) T (ok_law_is_integer (k := 0) T mono_isint len_isint vc_isint) (by omega) (ok_law_same_items (k := 2 * n + 2) T (same_ok T n) (Nat.le_refl _) (mono_items n) (len_items n) (vc_items n)) (Nat.le_refl _) ok_never (Nat.zero_le _) (mono_same (n + 1)) (len_same (n + 1)) fun ws G Q E fg h => vc_same n ws G Q E fg h _

theorem law_ok {P : Program} {w : World} {K : PySem.W.Frag} {mg : Str → Option Value} {base : Heap} {a : Ad} (T : Txt w K mg a) : Ok3 P w K mg base 10 a.f_law a.x_law ["script"] sp_law :=
  have gTake := ok_law_take (k := 0) (P := P) (w := w) (base := base) T mono_take len_take vc_take
  have gRow := ok_law_row (k := 1) (P := P) (w := w) (base := base) T gTake (by decide) mono_row len_row vc_row
  have gRun := ok_run_end (k := 0) (P := P) (w := w) (base := base) T mono_run len_run vc_run
  have gTok := ok_token_at (k := 1) (P := P) (w := w) (base := base) T gRun (by decide) mono_tok len_tok vc_tok
  have gBet := ok_tokens_between (k := 2) (P := P) (w := w) (base := base) T gTok (by decide) mono_between len_between vc_between
  have gToks := ok_tokens (k := 3) (P := P) (w := w) (base := base) T gBet (by decide) mono_tokens len_tokens vc_tokens
  have gName := ok_is_name (k := 4) (P := P) (w := w) (base := base) T gToks (by decide) mono_isnameF len_isnameF vc_isnameF
  have gNum := ok_number_in (k := 0) (P := P) (w := w) (base := base) T (mono_num a.C_InvalidCode) (len_num a.C_InvalidCode) (vc_num a.C_InvalidCode)
  have gItem := ok_item_in (k := 5) (P := P) (w := w) (base := base) T gNum (by decide) gName (by decide) (mono_item a.C_InvalidCode) (len_item a.C_InvalidCode) (vc_item a.C_InvalidCode)
  have gIns := ok_instruction_in (k := 6) (P := P) (w := w) (base := base) T gItem (by decide) (mono_ins a.C_InvalidCode) (len_ins a.C_InvalidCode) (vc_ins a.C_InvalidCode)
  have gPar := ok_parse_code (k := 7) (P := P) (w := w) (base := base) T gNum (by decide) gIns (by decide) (mono_parse a.C_InvalidCode) (len_parse a.C_InvalidCode) (vc_parse a.C_InvalidCode)
  have gRef := ok_law_is_refused (k := 8) (P := P) (w := w) (base := base) T gPar (by decide) mono_refused len_refused (vc_refused a.C_InvalidCode)
  have gFor := ok_format_code (k := 0) (P := P) (w := w) (base := base) T mono_format len_format vc_format
  ok_law (k := 9) T (ok_law_tape (k := 0) T mono_tape len_tape vc_tape) (by decide) gTake (by decide) gRow (by decide) gFor (by decide) (same_ok T 3) (by decide) gPar (by decide) gRef (by decide)
    mono_law len_law fun ws G Q E fg h => vc_law ws G Q E fg h a.C_InvalidCode

theorem all_mk {l : PySem.W.OpenLaw} {w : World} {K : PySem.W.Frag} {h : Heap} {mg : Str → Option Value} {fa : Addr} (X : K.In h) (G : h.Ns mainGlobals mg) (hfa : mg "law" = some (.ref fa))
    {f_run_end : Addr} {o_run_end n_run_end : Option Addr} {s_run_end : Array (Option Value)} {oc_run_end kv_run_end dc_run_end pm_run_end cd_run_end ct_run_end : Value}
    {f_token_at : Addr} {o_token_at n_token_at : Option Addr} {s_token_at : Array (Option Value)} {oc_token_at kv_token_at dc_token_at pm_token_at cd_token_at ct_token_at : Value}
    {f_tokens_between : Addr} {o_tokens_between n_tokens_between : Option Addr} {s_tokens_between : Array (Option Value)} {oc_tokens_between kv_tokens_between dc_tokens_between pm_tokens_between cd_tokens_between ct_tokens_between : Value}
    {f_tokens : Addr} {o_tokens n_tokens : Option Addr} {s_tokens : Array (Option Value)} {oc_tokens kv_tokens dc_tokens pm_tokens cd_tokens ct_tokens : Value}
    {f_is_name : Addr} {o_is_name n_is_name : Option Addr} {s_is_name : Array (Option Value)} {oc_is_name kv_is_name dc_is_name pm_is_name cd_is_name ct_is_name : Value}
    {f_format_code : Addr} {o_format_code n_format_code : Option Addr} {s_format_code : Array (Option Value)} {oc_format_code kv_format_code dc_format_code pm_format_code cd_format_code ct_format_code : Value}
    {f_number_in : Addr} {o_number_in n_number_in : Option Addr} {s_number_in : Array (Option Value)} {oc_number_in kv_number_in dc_number_in pm_number_in cd_number_in ct_number_in : Value}
    {f_item_in : Addr} {o_item_in n_item_in : Option Addr} {s_item_in : Array (Option Value)} {oc_item_in kv_item_in dc_item_in pm_item_in cd_item_in ct_item_in : Value}
    {f_instruction_in : Addr} {o_instruction_in n_instruction_in : Option Addr} {s_instruction_in : Array (Option Value)} {oc_instruction_in kv_instruction_in dc_instruction_in pm_instruction_in cd_instruction_in ct_instruction_in : Value}
    {f_parse_code : Addr} {o_parse_code n_parse_code : Option Addr} {s_parse_code : Array (Option Value)} {oc_parse_code kv_parse_code dc_parse_code pm_parse_code cd_parse_code ct_parse_code : Value}
    {f_law_tape : Addr} {o_law_tape n_law_tape : Option Addr} {s_law_tape : Array (Option Value)} {oc_law_tape kv_law_tape dc_law_tape pm_law_tape cd_law_tape ct_law_tape : Value}
    {f_law_take : Addr} {o_law_take n_law_take : Option Addr} {s_law_take : Array (Option Value)} {oc_law_take kv_law_take dc_law_take pm_law_take cd_law_take ct_law_take : Value}
    {f_law_is_integer : Addr} {o_law_is_integer n_law_is_integer : Option Addr} {s_law_is_integer : Array (Option Value)} {oc_law_is_integer kv_law_is_integer dc_law_is_integer pm_law_is_integer cd_law_is_integer ct_law_is_integer : Value}
    {f_law_same_items : Addr} {o_law_same_items n_law_same_items : Option Addr} {s_law_same_items : Array (Option Value)} {oc_law_same_items kv_law_same_items dc_law_same_items pm_law_same_items cd_law_same_items ct_law_same_items : Value}
    {f_law_same : Addr} {o_law_same n_law_same : Option Addr} {s_law_same : Array (Option Value)} {oc_law_same kv_law_same dc_law_same pm_law_same cd_law_same ct_law_same : Value}
    {f_law_row : Addr} {o_law_row n_law_row : Option Addr} {s_law_row : Array (Option Value)} {oc_law_row kv_law_row dc_law_row pm_law_row cd_law_row ct_law_row : Value}
    {f_law_is_refused : Addr} {o_law_is_refused n_law_is_refused : Option Addr} {s_law_is_refused : Array (Option Value)} {oc_law_is_refused kv_law_is_refused dc_law_is_refused pm_law_is_refused cd_law_is_refused ct_law_is_refused : Value}
    {f_law : Addr} {o_law n_law : Option Addr} {s_law : Array (Option Value)} {oc_law kv_law dc_law pm_law cd_law ct_law : Value}
    {C_InvalidCode : Addr}
    (a0 : PySem.W.nsIn K mainGlobals "run_end" = some (some (.ref f_run_end)))
    (l0 : K.lookup f_run_end = some ⟨oc_run_end, o_run_end, .func (PySem.W.fnOf "run_end" "run_end" (defArgs t_run_end) (defBody t_run_end) (defScope t_run_end) .none kv_run_end dc_run_end pm_run_end n_run_end cd_run_end ct_run_end), s_run_end⟩)
    (c0 : PySem.W.codeIn K cd_run_end "run_end" = true) (k0 : PySem.W.keepIn K (.ref f_run_end) = true)
    (a1 : PySem.W.nsIn K mainGlobals "token_at" = some (some (.ref f_token_at)))
    (l1 : K.lookup f_token_at = some ⟨oc_token_at, o_token_at, .func (PySem.W.fnOf "token_at" "token_at" (defArgs t_token_at) (defBody t_token_at) (defScope t_token_at) .none kv_token_at dc_token_at pm_token_at n_token_at cd_token_at ct_token_at), s_token_at⟩)
    (c1 : PySem.W.codeIn K cd_token_at "token_at" = true) (k1 : PySem.W.keepIn K (.ref f_token_at) = true)
    (a2 : PySem.W.nsIn K mainGlobals "tokens_between" = some (some (.ref f_tokens_between)))
    (l2 : K.lookup f_tokens_between = some ⟨oc_tokens_between, o_tokens_between, .func (PySem.W.fnOf "tokens_between" "tokens_between" (defArgs t_tokens_between) (defBody t_tokens_between) (defScope t_tokens_between) .none kv_tokens_between dc_tokens_between pm_tokens_between n_tokens_between cd_tokens_between ct_tokens_between), s_tokens_between⟩)
    (c2 : PySem.W.codeIn K cd_tokens_between "tokens_between" = true) (k2 : PySem.W.keepIn K (.ref f_tokens_between) = true)
    (a3 : PySem.W.nsIn K mainGlobals "tokens" = some (some (.ref f_tokens)))
    (l3 : K.lookup f_tokens = some ⟨oc_tokens, o_tokens, .func (PySem.W.fnOf "tokens" "tokens" (defArgs t_tokens) (defBody t_tokens) (defScope t_tokens) .none kv_tokens dc_tokens pm_tokens n_tokens cd_tokens ct_tokens), s_tokens⟩)
    (c3 : PySem.W.codeIn K cd_tokens "tokens" = true) (k3 : PySem.W.keepIn K (.ref f_tokens) = true)
    (a4 : PySem.W.nsIn K mainGlobals "is_name" = some (some (.ref f_is_name)))
    (l4 : K.lookup f_is_name = some ⟨oc_is_name, o_is_name, .func (PySem.W.fnOf "is_name" "is_name" (defArgs t_is_name) (defBody t_is_name) (defScope t_is_name) .none kv_is_name dc_is_name pm_is_name n_is_name cd_is_name ct_is_name), s_is_name⟩)
    (c4 : PySem.W.codeIn K cd_is_name "is_name" = true) (k4 : PySem.W.keepIn K (.ref f_is_name) = true)
    (a5 : PySem.W.nsIn K mainGlobals "format_code" = some (some (.ref f_format_code)))
    (l5 : K.lookup f_format_code = some ⟨oc_format_code, o_format_code, .func (PySem.W.fnOf "format_code" "format_code" (defArgs t_format_code) (defBody t_format_code) (defScope t_format_code) .none kv_format_code dc_format_code pm_format_code n_format_code cd_format_code ct_format_code), s_format_code⟩)
    (c5 : PySem.W.codeIn K cd_format_code "format_code" = true) (k5 : PySem.W.keepIn K (.ref f_format_code) = true)
    (a6 : PySem.W.nsIn K mainGlobals "number_in" = some (some (.ref f_number_in)))
    (l6 : K.lookup f_number_in = some ⟨oc_number_in, o_number_in, .func (PySem.W.fnOf "number_in" "number_in" (defArgs t_number_in) (defBody t_number_in) (defScope t_number_in) .none kv_number_in dc_number_in pm_number_in n_number_in cd_number_in ct_number_in), s_number_in⟩)
    (c6 : PySem.W.codeIn K cd_number_in "number_in" = true) (k6 : PySem.W.keepIn K (.ref f_number_in) = true)
    (a7 : PySem.W.nsIn K mainGlobals "item_in" = some (some (.ref f_item_in)))
    (l7 : K.lookup f_item_in = some ⟨oc_item_in, o_item_in, .func (PySem.W.fnOf "item_in" "item_in" (defArgs t_item_in) (defBody t_item_in) (defScope t_item_in) .none kv_item_in dc_item_in pm_item_in n_item_in cd_item_in ct_item_in), s_item_in⟩)
    (c7 : PySem.W.codeIn K cd_item_in "item_in" = true) (k7 : PySem.W.keepIn K (.ref f_item_in) = true)
    (a8 : PySem.W.nsIn K mainGlobals "instruction_in" = some (some (.ref f_instruction_in)))
    (l8 : K.lookup f_instruction_in = some ⟨oc_instruction_in, o_instruction_in, .func (PySem.W.fnOf "instruction_in" "instruction_in" (defArgs t_instruction_in) (defBody t_instruction_in) (defScope t_instruction_in) .none kv_instruction_in dc_instruction_in pm_instruction_in n_instruction_in cd_instruction_in ct_instruction_in), s_instruction_in⟩)
    (c8 : PySem.W.codeIn K cd_instruction_in "instruction_in" = true) (k8 : PySem.W.keepIn K (.ref f_instruction_in) = true)
    (a9 : PySem.W.nsIn K mainGlobals "parse_code" = some (some (.ref f_parse_code)))
    (l9 : K.lookup f_parse_code = some ⟨oc_parse_code, o_parse_code, .func (PySem.W.fnOf "parse_code" "parse_code" (defArgs t_parse_code) (defBody t_parse_code) (defScope t_parse_code) .none kv_parse_code dc_parse_code pm_parse_code n_parse_code cd_parse_code ct_parse_code), s_parse_code⟩)
    (c9 : PySem.W.codeIn K cd_parse_code "parse_code" = true) (k9 : PySem.W.keepIn K (.ref f_parse_code) = true)
    (a10 : PySem.W.nsIn K mainGlobals "_law_tape" = some (some (.ref f_law_tape)))
    (l10 : K.lookup f_law_tape = some ⟨oc_law_tape, o_law_tape, .func (PySem.W.fnOf "_law_tape" "_law_tape" (defArgs t_law_tape) (defBody t_law_tape) (defScope t_law_tape) .none kv_law_tape dc_law_tape pm_law_tape n_law_tape cd_law_tape ct_law_tape), s_law_tape⟩)
    (c10 : PySem.W.codeIn K cd_law_tape "_law_tape" = true) (k10 : PySem.W.keepIn K (.ref f_law_tape) = true)
    (a11 : PySem.W.nsIn K mainGlobals "_law_take" = some (some (.ref f_law_take)))
    (l11 : K.lookup f_law_take = some ⟨oc_law_take, o_law_take, .func (PySem.W.fnOf "_law_take" "_law_take" (defArgs t_law_take) (defBody t_law_take) (defScope t_law_take) .none kv_law_take dc_law_take pm_law_take n_law_take cd_law_take ct_law_take), s_law_take⟩)
    (c11 : PySem.W.codeIn K cd_law_take "_law_take" = true) (k11 : PySem.W.keepIn K (.ref f_law_take) = true)
    (a12 : PySem.W.nsIn K mainGlobals "_law_is_integer" = some (some (.ref f_law_is_integer)))
    (l12 : K.lookup f_law_is_integer = some ⟨oc_law_is_integer, o_law_is_integer, .func (PySem.W.fnOf "_law_is_integer" "_law_is_integer" (defArgs t_law_is_integer) (defBody t_law_is_integer) (defScope t_law_is_integer) .none kv_law_is_integer dc_law_is_integer pm_law_is_integer n_law_is_integer cd_law_is_integer ct_law_is_integer), s_law_is_integer⟩)
    (c12 : PySem.W.codeIn K cd_law_is_integer "_law_is_integer" = true) (k12 : PySem.W.keepIn K (.ref f_law_is_integer) = true)
    (a13 : PySem.W.nsIn K mainGlobals "_law_same_items" = some (some (.ref f_law_same_items)))
    (l13 : K.lookup f_law_same_items = some ⟨oc_law_same_items, o_law_same_items, .func (PySem.W.fnOf "_law_same_items" "_law_same_items" (defArgs t_law_same_items) (defBody t_law_same_items) (defScope t_law_same_items) .none kv_law_same_items dc_law_same_items pm_law_same_items n_law_same_items cd_law_same_items ct_law_same_items), s_law_same_items⟩)
    (c13 : PySem.W.codeIn K cd_law_same_items "_law_same_items" = true) (k13 : PySem.W.keepIn K (.ref f_law_same_items) = true)
    (a14 : PySem.W.nsIn K mainGlobals "_law_same" = some (some (.ref f_law_same)))
    (l14 : K.lookup f_law_same = some ⟨oc_law_same, o_law_same, .func (PySem.W.fnOf "_law_same" "_law_same" (defArgs t_law_same) (defBody t_law_same) (defScope t_law_same) .none kv_law_same dc_law_same pm_law_same n_law_same cd_law_same ct_law_same), s_law_same⟩)
    (c14 : PySem.W.codeIn K cd_law_same "_law_same" = true) (k14 : PySem.W.keepIn K (.ref f_law_same) = true)
    (a15 : PySem.W.nsIn K mainGlobals "_law_row" = some (some (.ref f_law_row)))
    (l15 : K.lookup f_law_row = some ⟨oc_law_row, o_law_row, .func (PySem.W.fnOf "_law_row" "_law_row" (defArgs t_law_row) (defBody t_law_row) (defScope t_law_row) .none kv_law_row dc_law_row pm_law_row n_law_row cd_law_row ct_law_row), s_law_row⟩)
    (c15 : PySem.W.codeIn K cd_law_row "_law_row" = true) (k15 : PySem.W.keepIn K (.ref f_law_row) = true)
    (a16 : PySem.W.nsIn K mainGlobals "_law_is_refused" = some (some (.ref f_law_is_refused)))
    (l16 : K.lookup f_law_is_refused = some ⟨oc_law_is_refused, o_law_is_refused, .func (PySem.W.fnOf "_law_is_refused" "_law_is_refused" (defArgs t_law_is_refused) (defBody t_law_is_refused) (defScope t_law_is_refused) .none kv_law_is_refused dc_law_is_refused pm_law_is_refused n_law_is_refused cd_law_is_refused ct_law_is_refused), s_law_is_refused⟩)
    (c16 : PySem.W.codeIn K cd_law_is_refused "_law_is_refused" = true) (k16 : PySem.W.keepIn K (.ref f_law_is_refused) = true)
    (a17 : PySem.W.nsIn K mainGlobals "law" = some (some (.ref f_law)))
    (l17 : K.lookup f_law = some ⟨oc_law, o_law, .func (PySem.W.fnOf "law" "law" (defArgs t_law) (defBody t_law) (defScope t_law) .none kv_law dc_law pm_law n_law cd_law ct_law), s_law⟩)
    (c17 : PySem.W.codeIn K cd_law "law" = true) (k17 : PySem.W.keepIn K (.ref f_law) = true)
    (z0 : PySem.W.nsIn K mainGlobals "abs" = some none)
    (z1 : PySem.W.nsIn K mainGlobals "all" = some none)
    (z2 : PySem.W.nsIn K mainGlobals "bool" = some none)
    (z3 : PySem.W.nsIn K mainGlobals "dict" = some none)
    (z4 : PySem.W.nsIn K mainGlobals "int" = some none)
    (z5 : PySem.W.nsIn K mainGlobals "isinstance" = some none)
    (z6 : PySem.W.nsIn K mainGlobals "len" = some none)
    (z7 : PySem.W.nsIn K mainGlobals "list" = some none)
    (z8 : PySem.W.nsIn K mainGlobals "range" = some none)
    (z9 : PySem.W.nsIn K mainGlobals "str" = some none)
    (z10 : PySem.W.nsIn K mainGlobals "tuple" = some none)
    (z11 : PySem.W.nsIn K mainGlobals "zip" = some none)
    (ga0 : PySem.W.nsIn K mainGlobals "InvalidCode" = some (some (.ref C_InvalidCode))) (wx0 : PySem.W.excIn K C_InvalidCode [.type "ValueError", .type "Exception", .type "BaseException", .type "object"] "ValueError.__new__" = true) (gk0 : PySem.W.keepIn K (.ref C_InvalidCode) = true)
    (gs0 : PySem.W.subIn K (.ref C_InvalidCode) (.type "BaseException") = some true) (gt0 : PySem.W.typeIn K (.ref C_InvalidCode) = some (.type "type")) (we0 : PySem.W.exmOne K (.ref C_InvalidCode) (.ref C_InvalidCode) = some true)
    {u0 : Value} (v0 : PySem.W.nsIn K mainGlobals "DIGITS_codetext" = some (some u0)) (w0 : repB K 60 c_DIGITS_codetext u0 = true)
    {u1 : Value} (v1 : PySem.W.nsIn K mainGlobals "DIGITS_tokens" = some (some u1)) (w1 : repB K 60 c_DIGITS u1 = true)
    {u2 : Value} (v2 : PySem.W.nsIn K mainGlobals "LETTERS" = some (some u2)) (w2 : repB K 60 c_LETTERS u2 = true)
    {u3 : Value} (v3 : PySem.W.nsIn K mainGlobals "MOST_DIGITS" = some (some u3)) (w3 : repB K 60 c_MOST_DIGITS u3 = true)
    {u4 : Value} (v4 : PySem.W.nsIn K mainGlobals "NAME_CHARACTERS" = some (some u4)) (w4 : repB K 60 c_NAME_CHARACTERS u4 = true)
    {u5 : Value} (v5 : PySem.W.nsIn K mainGlobals "SIGNS_codes" = some (some u5)) (w5 : repB K 60 c_SIGNS_codes u5 = true)
    {u6 : Value} (v6 : PySem.W.nsIn K mainGlobals "SIGNS_tokens" = some (some u6)) (w6 : repB K 60 c_SIGNS u6 = true)
    {u7 : Value} (v7 : PySem.W.nsIn K mainGlobals "SIZE" = some (some u7)) (w7 : repB K 60 c_SIZE u7 = true)
    {u8 : Value} (v8 : PySem.W.nsIn K mainGlobals "WORDS" = some (some u8)) (w8 : repB K 60 c_WORDS u8 = true)
    {a_SHAPES : Addr} {e_SHAPES : Array DictEntry} {n_SHAPES : Nat} (da0 : PySem.W.nsIn K mainGlobals "SHAPES" = some (some (.ref a_SHAPES))) (dl0 : K.lookup a_SHAPES = some ⟨.type "dict", none, .dict e_SHAPES n_SHAPES, #[]⟩) (dk0 : PySem.W.KeysLit w.params e_SHAPES.toList) (ds0 : (a_SHAPES == sysModules) = false) (wd0 : kdB K kd_SHAPES e_SHAPES.toList = true)
    : ∃ fd : FuncData, (∀ (s : Shared) (v : Value), BindsTo s fd ⟨[v], []⟩ [("script", v)]) ∧ ∀ base : Heap, K.In base → base.Ns mainGlobals mg → FnOk l.prog w K mg base (CXM l.prog w) 10 fa fd ["script"] (low K sp_law) := by
  have e := hfa.symm.trans (PySem.W.mg_of X G a17)
  cases e
  have F0 := fun_mk (st := t_run_end) l0 c0 k0
  have F1 := fun_mk (st := t_token_at) l1 c1 k1
  have F2 := fun_mk (st := t_tokens_between) l2 c2 k2
  have F3 := fun_mk (st := t_tokens) l3 c3 k3
  have F4 := fun_mk (st := t_is_name) l4 c4 k4
  have F5 := fun_mk (st := t_format_code) l5 c5 k5
  have F6 := fun_mk (st := t_number_in) l6 c6 k6
  have F7 := fun_mk (st := t_item_in) l7 c7 k7
  have F8 := fun_mk (st := t_instruction_in) l8 c8 k8
  have F9 := fun_mk (st := t_parse_code) l9 c9 k9
  have F10 := fun_mk (st := t_law_tape) l10 c10 k10
  have F11 := fun_mk (st := t_law_take) l11 c11 k11
  have F12 := fun_mk (st := t_law_is_integer) l12 c12 k12
  have F13 := fun_mk (st := t_law_same_items) l13 c13 k13
  have F14 := fun_mk (st := t_law_same) l14 c14 k14
  have F15 := fun_mk (st := t_law_row) l15 c15 k15
  have F16 := fun_mk (st := t_law_is_refused) l16 c16 k16
  have F17 := fun_mk (st := t_law) l17 c17 k17
  have T : Txt w K mg ⟨C_InvalidCode,
    f_run_end, PySem.W.fnOf "run_end" "run_end" (defArgs t_run_end) (defBody t_run_end) (defScope t_run_end) .none kv_run_end dc_run_end pm_run_end n_run_end cd_run_end ct_run_end,
    f_token_at, PySem.W.fnOf "token_at" "token_at" (defArgs t_token_at) (defBody t_token_at) (defScope t_token_at) .none kv_token_at dc_token_at pm_token_at n_token_at cd_token_at ct_token_at,
    f_tokens_between, PySem.W.fnOf "tokens_between" "tokens_between" (defArgs t_tokens_between) (defBody t_tokens_between) (defScope t_tokens_between) .none kv_tokens_between dc_tokens_between pm_tokens_between n_tokens_between cd_tokens_between ct_tokens_between,
    f_tokens, PySem.W.fnOf "tokens" "tokens" (defArgs t_tokens) (defBody t_tokens) (defScope t_tokens) .none kv_tokens dc_tokens pm_tokens n_tokens cd_tokens ct_tokens,
    f_is_name, PySem.W.fnOf "is_name" "is_name" (defArgs t_is_name) (defBody t_is_name) (defScope t_is_name) .none kv_is_name dc_is_name pm_is_name n_is_name cd_is_name ct_is_name,
    f_format_code, PySem.W.fnOf "format_code" "format_code" (defArgs t_format_code) (defBody t_format_code) (defScope t_format_code) .none kv_format_code dc_format_code pm_format_code n_format_code cd_format_code ct_format_code,
    f_number_in, PySem.W.fnOf "number_in" "number_in" (defArgs t_number_in) (defBody t_number_in) (defScope t_number_in) .none kv_number_in dc_number_in pm_number_in n_number_in cd_number_in ct_number_in,
    f_item_in, PySem.W.fnOf "item_in" "item_in" (defArgs t_item_in) (defBody t_item_in) (defScope t_item_in) .none kv_item_in dc_item_in pm_item_in n_item_in cd_item_in ct_item_in,
    f_instruction_in, PySem.W.fnOf "instruction_in" "instruction_in" (defArgs t_instruction_in) (defBody t_instruction_in) (defScope t_instruction_in) .none kv_instruction_in dc_instruction_in pm_instruction_in n_instruction_in cd_instruction_in ct_instruction_in,
    f_parse_code, PySem.W.fnOf "parse_code" "parse_code" (defArgs t_parse_code) (defBody t_parse_code) (defScope t_parse_code) .none kv_parse_code dc_parse_code pm_parse_code n_parse_code cd_parse_code ct_parse_code,
    f_law_tape, PySem.W.fnOf "_law_tape" "_law_tape" (defArgs t_law_tape) (defBody t_law_tape) (defScope t_law_tape) .none kv_law_tape dc_law_tape pm_law_tape n_law_tape cd_law_tape ct_law_tape,
    f_law_take, PySem.W.fnOf "_law_take" "_law_take" (defArgs t_law_take) (defBody t_law_take) (defScope t_law_take) .none kv_law_take dc_law_take pm_law_take n_law_take cd_law_take ct_law_take,
    f_law_is_integer, PySem.W.fnOf "_law_is_integer" "_law_is_integer" (defArgs t_law_is_integer) (defBody t_law_is_integer) (defScope t_law_is_integer) .none kv_law_is_integer dc_law_is_integer pm_law_is_integer n_law_is_integer cd_law_is_integer ct_law_is_integer,
    f_law_same_items, PySem.W.fnOf "_law_same_items" "_law_same_items" (defArgs t_law_same_items) (defBody t_law_same_items) (defScope t_law_same_items) .none kv_law_same_items dc_law_same_items pm_law_same_items n_law_same_items cd_law_same_items ct_law_same_items,
    f_law_same, PySem.W.fnOf "_law_same" "_law_same" (defArgs t_law_same) (defBody t_law_same) (defScope t_law_same) .none kv_law_same dc_law_same pm_law_same n_law_same cd_law_same ct_law_same,
    f_law_row, PySem.W.fnOf "_law_row" "_law_row" (defArgs t_law_row) (defBody t_law_row) (defScope t_law_row) .none kv_law_row dc_law_row pm_law_row n_law_row cd_law_row ct_law_row,
    f_law_is_refused, PySem.W.fnOf "_law_is_refused" "_law_is_refused" (defArgs t_law_is_refused) (defBody t_law_is_refused) (defScope t_law_is_refused) .none kv_law_is_refused dc_law_is_refused pm_law_is_refused n_law_is_refused cd_law_is_refused ct_law_is_refused,
    fa, PySem.W.fnOf "law" "law" (defArgs t_law) (defBody t_law) (defScope t_law) .none kv_law dc_law pm_law n_law cd_law ct_law⟩ := {
    b_abs := PySem.W.mg_none_of X G z0,
    b_all := PySem.W.mg_none_of X G z1,
    b_bool := PySem.W.mg_none_of X G z2,
    b_dict := PySem.W.mg_none_of X G z3,
    b_int := PySem.W.mg_none_of X G z4,
    b_isinstance := PySem.W.mg_none_of X G z5,
    b_len := PySem.W.mg_none_of X G z6,
    b_list := PySem.W.mg_none_of X G z7,
    b_range := PySem.W.mg_none_of X G z8,
    b_str := PySem.W.mg_none_of X G z9,
    b_tuple := PySem.W.mg_none_of X G z10,
    b_zip := PySem.W.mg_none_of X G z11,
    E_InvalidCode := ⟨PySem.F.excBase_ValueError, wx0, PySem.W.mg_of X G ga0, gk0, gs0, gt0, we0⟩,
    k_DIGITS_codetext := kst_of X G v0 w0,
    k_DIGITS_tokens := kst_of X G v1 w1,
    k_LETTERS := kst_of X G v2 w2,
    k_MOST_DIGITS := kst_of X G v3 w3,
    k_NAME_CHARACTERS := kst_of X G v4 w4,
    k_SIGNS_codes := kst_of X G v5 w5,
    k_SIGNS_tokens := kst_of X G v6 w6,
    k_SIZE := kst_of X G v7 w7,
    k_WORDS := kst_of X G v8 w8,
    d_SHAPES := kdt_of X G da0 dl0 dk0 ds0 wd0,
    m_run_end := PySem.W.mg_of X G a0,
    F_run_end := F0,
    B_run_end := F0.binds (ps := ["text", "start", "allowed"]) fun _ _ _ _ _ _ us hl => match us, hl with | [_, _, _], _ => rfl,
    m_token_at := PySem.W.mg_of X G a1,
    F_token_at := F1,
    B_token_at := F1.binds (ps := ["text", "start"]) fun _ _ _ _ _ _ us hl => match us, hl with | [_, _], _ => rfl,
    m_tokens_between := PySem.W.mg_of X G a2,
    F_tokens_between := F2,
    B_tokens_between := F2.binds (ps := ["text", "start", "end"]) fun _ _ _ _ _ _ us hl => match us, hl with | [_, _, _], _ => rfl,
    m_tokens := PySem.W.mg_of X G a3,
    F_tokens := F3,
    B_tokens := F3.binds (ps := ["text"]) fun _ _ _ _ _ _ us hl => match us, hl with | [_], _ => rfl,
    m_is_name := PySem.W.mg_of X G a4,
    F_is_name := F4,
    B_is_name := F4.binds (ps := ["value"]) fun _ _ _ _ _ _ us hl => match us, hl with | [_], _ => rfl,
    m_format_code := PySem.W.mg_of X G a5,
    F_format_code := F5,
    B_format_code := F5.binds (ps := ["code"]) fun _ _ _ _ _ _ us hl => match us, hl with | [_], _ => rfl,
    m_number_in := PySem.W.mg_of X G a6,
    F_number_in := F6,
    B_number_in := F6.binds (ps := ["word"]) fun _ _ _ _ _ _ us hl => match us, hl with | [_], _ => rfl,
    m_item_in := PySem.W.mg_of X G a7,
    F_item_in := F7,
    B_item_in := F7.binds (ps := ["word", "shape"]) fun _ _ _ _ _ _ us hl => match us, hl with | [_, _], _ => rfl,
    m_instruction_in := PySem.W.mg_of X G a8,
    F_instruction_in := F8,
    B_instruction_in := F8.binds (ps := ["line"]) fun _ _ _ _ _ _ us hl => match us, hl with | [_], _ => rfl,
    m_parse_code := PySem.W.mg_of X G a9,
    F_parse_code := F9,
    B_parse_code := F9.binds (ps := ["text"]) fun _ _ _ _ _ _ us hl => match us, hl with | [_], _ => rfl,
    m_law_tape := PySem.W.mg_of X G a10,
    F_law_tape := F10,
    B_law_tape := F10.binds (ps := ["script"]) fun _ _ _ _ _ _ us hl => match us, hl with | [_], _ => rfl,
    m_law_take := PySem.W.mg_of X G a11,
    F_law_take := F11,
    B_law_take := F11.binds (ps := ["tape", "many"]) fun _ _ _ _ _ _ us hl => match us, hl with | [_, _], _ => rfl,
    m_law_is_integer := PySem.W.mg_of X G a12,
    F_law_is_integer := F12,
    B_law_is_integer := F12.binds (ps := ["actual"]) fun _ _ _ _ _ _ us hl => match us, hl with | [_], _ => rfl,
    m_law_same_items := PySem.W.mg_of X G a13,
    F_law_same_items := F13,
    B_law_same_items := F13.binds (ps := ["actual", "expected"]) fun _ _ _ _ _ _ us hl => match us, hl with | [_, _], _ => rfl,
    m_law_same := PySem.W.mg_of X G a14,
    F_law_same := F14,
    B_law_same := F14.binds (ps := ["actual", "expected"]) fun _ _ _ _ _ _ us hl => match us, hl with | [_, _], _ => rfl,
    m_law_row := PySem.W.mg_of X G a15,
    F_law_row := F15,
    B_law_row := F15.binds (ps := ["tape"]) fun _ _ _ _ _ _ us hl => match us, hl with | [_], _ => rfl,
    m_law_is_refused := PySem.W.mg_of X G a16,
    F_law_is_refused := F16,
    B_law_is_refused := F16.binds (ps := ["text"]) fun _ _ _ _ _ _ us hl => match us, hl with | [_], _ => rfl,
    m_law := PySem.W.mg_of X G a17,
    F_law := F17,
    B_law := F17.binds (ps := ["script"]) fun _ _ _ _ _ _ us hl => match us, hl with | [_], _ => rfl }
  exact ⟨PySem.W.fnOf "law" "law" (defArgs t_law) (defBody t_law) (defScope t_law) .none kv_law dc_law pm_law n_law cd_law ct_law, fun s v => .of_eq rfl, fun base _ _ => law_ok T⟩
theorem walkL {l : PySem.W.OpenLaw} {q : Program} {loose : List Str} {XP : (Str → Option Value) → Heap → Prop} {YP : World → Heap → Prop} {d : DefRec} {K : Params → PySem.W.Frag} (hn : l.most = some 63) (hdf : d.params.defaults = [])
    (hY : ∀ (w : World) (h : Heap), YP w h → (K w.params).In h)
    (F : ∀ (w : World) (mg : Str → Option Value) (fa : Addr) (h : Heap), (K w.params).In h → h.Ns mainGlobals mg → mg d.name = some (.ref fa) →
      ∃ fd : FuncData, (∀ (s : Shared) (u : Value), BindsTo s fd ⟨[u], []⟩ [("script", u)]) ∧ ∀ base : Heap, (K w.params).In base → base.Ns mainGlobals mg → FnOk l.prog w (K w.params) mg base (CXM l.prog w) 10 fa fd ["script"] (low (K w.params) sp_law)) :
    PySem.W.WalkO q loose XP YP l.row.toRowW d [] (fun f vs => PySem.call f vs) :=
  L2.walk_of (n := 63) (k := 10) (x := "script") (CX := fun w => CXM l.prog w) (sp := fun w => low (K w.params) sp_law) hn (by decide) hdf ⟨rfl, by decide, by decide⟩ hY F (fun _ _ _ _ hl ho hS => low_law hl ho hS) fun _ _ _ _ _ z => by
    obtain ⟨_, _, _, _, _, _, _, _, _, _, _, _, z⟩ := z
    exact z
end L3.Lw
end
open PySem PySem.W PyProof.Rows
set_option maxRecDepth 100000 in
set_option maxHeartbeats 0 in
theorem PySem.Challenge.cw_deepbench_k79_code_texts_holds : PySem.Challenge.rw_deepbench_k79_code_texts.Holds := by
  w_on; o_law; k_head; (case hw => w_witness2)
  k_fill
  refine L3.Lw.walkL (l := PySem.Challenge.rw_deepbench_k79_code_texts) rfl rfl (fun w h Y => PySem.W.kIn_of Y) ?F
  case F =>
    intro w mg fa h KX G hmg
    refine' L3.Lw.all_mk KX G hmg ?a0 ?l0 ?c0 ?k0 ?a1 ?l1 ?c1 ?k1 ?a2 ?l2 ?c2 ?k2 ?a3 ?l3 ?c3 ?k3 ?a4 ?l4 ?c4 ?k4 ?a5 ?l5 ?c5 ?k5 ?a6 ?l6 ?c6 ?k6 ?a7 ?l7 ?c7 ?k7 ?a8 ?l8 ?c8 ?k8 ?a9 ?l9 ?c9 ?k9 ?a10 ?l10 ?c10 ?k10 ?a11 ?l11 ?c11 ?k11 ?a12 ?l12 ?c12 ?k12 ?a13 ?l13 ?c13 ?k13 ?a14 ?l14 ?c14 ?k14 ?a15 ?l15 ?c15 ?k15 ?a16 ?l16 ?c16 ?k16 ?a17 ?l17 ?c17 ?k17 ?z0 ?z1 ?z2 ?z3 ?z4 ?z5 ?z6 ?z7 ?z8 ?z9 ?z10 ?z11 ?ga0 ?wx0 ?gk0 ?gs0 ?gt0 ?we0 ?v0 ?w0 ?v1 ?w1 ?v2 ?w2 ?v3 ?w3 ?v4 ?w4 ?v5 ?w5 ?v6 ?w6 ?v7 ?w7 ?v8 ?w8 ?da0 ?dl0 ?dk0 ?ds0 ?wd0
    (case a0 => k_is); (case l0 => k_is); (case c0 => k_is); (case k0 => k_is); (case a1 => k_is); (case l1 => k_is); (case c1 => k_is); (case k1 => k_is)
    (case a2 => k_is); (case l2 => k_is); (case c2 => k_is); (case k2 => k_is); (case a3 => k_is); (case l3 => k_is); (case c3 => k_is); (case k3 => k_is)
    (case a4 => k_is); (case l4 => k_is); (case c4 => k_is); (case k4 => k_is); (case a5 => k_is); (case l5 => k_is); (case c5 => k_is); (case k5 => k_is)
    (case a6 => k_is); (case l6 => k_is); (case c6 => k_is); (case k6 => k_is); (case a7 => k_is); (case l7 => k_is); (case c7 => k_is); (case k7 => k_is)
    (case a8 => k_is); (case l8 => k_is); (case c8 => k_is); (case k8 => k_is); (case a9 => k_is); (case l9 => k_is); (case c9 => k_is); (case k9 => k_is)
    (case a10 => k_is); (case l10 => k_is); (case c10 => k_is); (case k10 => k_is); (case a11 => k_is); (case l11 => k_is); (case c11 => k_is); (case k11 => k_is)
    (case a12 => k_is); (case l12 => k_is); (case c12 => k_is); (case k12 => k_is); (case a13 => k_is); (case l13 => k_is); (case c13 => k_is); (case k13 => k_is)
    (case a14 => k_is); (case l14 => k_is); (case c14 => k_is); (case k14 => k_is); (case a15 => k_is); (case l15 => k_is); (case c15 => k_is); (case k15 => k_is)
    (case a16 => k_is); (case l16 => k_is); (case c16 => k_is); (case k16 => k_is); (case a17 => k_is); (case l17 => k_is); (case c17 => k_is); (case k17 => k_is)
    (case z0 => k_is); (case z1 => k_is); (case z2 => k_is); (case z3 => k_is); (case z4 => k_is); (case z5 => k_is); (case z6 => k_is); (case z7 => k_is)
    (case z8 => k_is); (case z9 => k_is); (case z10 => k_is); (case z11 => k_is); (case ga0 => k_is); (case wx0 => kernel_rfl); (case gk0 => k_is); (case gs0 => k_is)
    (case gt0 => k_is); (case we0 => kernel_rfl); (case v0 => k_is); (case w0 => kernel_rfl); (case v1 => k_is); (case w1 => kernel_rfl); (case v2 => k_is); (case w2 => kernel_rfl)
    (case v3 => k_is); (case w3 => kernel_rfl); (case v4 => k_is); (case w4 => kernel_rfl); (case v5 => k_is); (case w5 => kernel_rfl); (case v6 => k_is); (case w6 => kernel_rfl)
    (case v7 => k_is); (case w7 => kernel_rfl); (case v8 => k_is); (case w8 => kernel_rfl); (case da0 => k_is); (case dl0 => k_is); (case dk0 => exact He.keysLit_of (ks := ["push", "load", "store", "sign", "not", "minus", "jump", "unless", "make", "field", "call", "method"]) (by kernel_rfl)); (case ds0 => (first | k_is | decide))
    (case wd0 => kernel_rfl)
