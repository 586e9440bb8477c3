import PyProof.Rows.All
import Wide.All
import OpenK.AllK
import Wide.FinOn
import KE.KTryMore
import PyProof.ExcArgsOwn
import PyProof.ExcBaseAll.ValueError
import PyProof.ExcAttrAll.ValueError
import Wide.Well
import Wide.BridgeG
import Lean
import PySem.Challenge.RW_uf020020_02
set_option Elab.async false
section
set_option Elab.async false
set_option genSizeOf false
set_option genSizeOfSpec false
set_option linter.unusedVariables false
namespace Ap
open PySem
/-- abstract values: data by value; `obj a`: a mutable object of the call's own, in the store -/
inductive AV where
  | none
  | bool (b : Bool)
  | int (i : Int)
  | str (s : Str)
  | tup (xs : List AV)
  | ilist (xs : List AV)
  | obj (a : Nat)
  | exn (c : Nat)
inductive AObj where
  | list (xs : List AV)
  | dictI (es : List (Int × AV))
  | dictS (es : List (Str × AV))
  | inst (c : Nat) (fs : List (Nat × AV))
abbrev St := Nat → Option AObj
abbrev Loc := List (Option AV)
noncomputable def upd (σ : St) (a : Nat) (o : AObj) : St := fun b => if b = a then some o else σ b
inductive Fl | next | ret (v : AV)
abbrev PQ := AV → St → Prop
abbrev PE := Nat → St → Prop
abbrev QS := Fl → Loc → St → Prop
abbrev ES := Nat → Loc → St → Prop
abbrev Calls := Nat → List AV → St → PQ → PE → Prop
abbrev WE := Loc → St → PQ → PE → Prop
abbrev WL := Loc → St → (List AV → St → Prop) → PE → Prop
abbrev WBl := Loc → St → (Bool → St → Prop) → PE → Prop
abbrev WS := Loc → St → QS → ES → Prop
abbrev WH := Nat → WS
structure FnI where
  quiet : Bool
  arity : Nat
  nloc : Nat
  body : Calls → WS
structure ClsI where
  init : Option Nat
  meths : List (Nat × Nat)
  sups : List Nat
structure Prg where
  fns : List FnI
  cls : List ClsI
  globs : List AV
noncomputable def putF {κ : Type} [DecidableEq κ] (k : κ) (v : AV) (es : List (κ × AV)) : List (κ × AV) :=
  if es.any (fun e => e.1 = k) then es.map (fun e => if e.1 = k then (e.1, v) else e) else es ++ [(k, v)]
noncomputable def delF {κ : Type} [DecidableEq κ] (k : κ) (es : List (κ × AV)) : List (κ × AV) := es.filter fun e => decide (e.1 ≠ k)
noncomputable def lookF {κ : Type} [DecidableEq κ] (es : List (κ × AV)) (k : κ) : Option AV := (es.find? fun e => e.1 = k).map (·.2)
noncomputable def hasF {κ : Type} [DecidableEq κ] (es : List (κ × AV)) (k : κ) : Bool := (lookF es k).isSome
noncomputable def setL (ρ : Loc) (x : Nat) (v : AV) : Loc := ρ.set x (some v)
noncomputable def getL (ρ : Loc) (x : Nat) : Option AV := ρ.getD x Option.none
noncomputable def lookV (Q : PQ) (σ : St) : Option AV → Prop
  | some v => Q v σ
  | Option.none => False
/-! ### expressions -/
def vVar (i : Nat) : WE := fun ρ σ Q _ => lookV Q σ (getL ρ i)
def vC (v : AV) : WE := fun _ σ Q _ => Q v σ
def kEs2 (v : AV) (Q : List AV → St → Prop) : List AV → St → Prop := fun vs σ => Q (v :: vs) σ
def kEs1 (es : WL) (ρ : Loc) (Q : List AV → St → Prop) (E : PE) : PQ := fun v σ => es ρ σ (kEs2 v Q) E
def lNil : WL := fun _ σ Q _ => Q [] σ
def lCons (e : WE) (es : WL) : WL := fun ρ σ Q E => e ρ σ (kEs1 es ρ Q E) E
def kTup (Q : PQ) : List AV → St → Prop := fun vs σ => Q (.tup vs) σ
def vTup (es : WL) : WE := fun ρ σ Q E => es ρ σ (kTup Q) E
def mkL (own : Bool) (xs : List AV) (σ : St) (Q : PQ) : Prop :=
  match own with
  | true => ∀ a, σ a = Option.none → Q (.obj a) (upd σ a (.list xs))
  | false => Q (.ilist xs) σ
def kLst (own : Bool) (Q : PQ) : List AV → St → Prop := fun vs σ => mkL own vs σ Q
def vLst (own : Bool) (es : WL) : WE := fun ρ σ Q E => es ρ σ (kLst own Q) E
/-- an operation of two values -/
abbrev O2 := AV → AV → St → PQ → Prop
def kO2 (f : O2) (va : AV) (Q : PQ) : PQ := fun vb σ => f va vb σ Q
def kO1 (f : O2) (b : WE) (ρ : Loc) (Q : PQ) (E : PE) : PQ := fun va σ => b ρ σ (kO2 f va Q) E
def vO2 (f : O2) (a b : WE) : WE := fun ρ σ Q E => a ρ σ (kO1 f b ρ Q E) E
/-- an operation of one value -/
abbrev O1 := AV → St → PQ → Prop
def kU (f : O1) (Q : PQ) : PQ := fun v σ => f v σ Q
def vO1 (f : O1) (a : WE) : WE := fun ρ σ Q E => a ρ σ (kU f Q) E
/-- of a list of values -/
abbrev ON := List AV → St → PQ → Prop
def kN (f : ON) (Q : PQ) : List AV → St → Prop := fun vs σ => f vs σ Q
def vON (f : ON) (es : WL) : WE := fun ρ σ Q E => es ρ σ (kN f Q) E
def onI (f : Int → St → PQ → Prop) : O1 := fun v σ Q => match v with | .int x => f x σ Q | _ => False
def onB (f : Bool → St → PQ → Prop) : O1 := fun v σ Q => match v with | .bool x => f x σ Q | _ => False
def oNeg : O1 := onI fun x σ Q => Q (.int (-x)) σ
def oNot : O1 := onB fun x σ Q => Q (.bool (!x)) σ
def kBool (Q : PQ) : Bool → St → Prop := fun b σ => Q (.bool b) σ
/-- where a bool goes on -/
def onT (R : Bool → St → Prop) : PQ := fun v σ => match v with | .bool b => R b σ | _ => False
def blNil (and : Bool) : WBl := fun _ σ Q _ => Q and σ
def brBl (r : WBl) (ρ : Loc) (Q : Bool → St → Prop) (E : PE) (b t : Bool) (σ : St) : Prop := match t with
  | true => r ρ σ Q E
  | false => Q b σ
def kBl (and : Bool) (r : WBl) (ρ : Loc) (Q : Bool → St → Prop) (E : PE) : Bool → St → Prop := fun b σ => brBl r ρ Q E b (b == and) σ
def blCons (and : Bool) (e : WE) (r : WBl) : WBl := fun ρ σ Q E => e ρ σ (onT (kBl and r ρ Q E)) E
def vBl (r : WBl) : WE := fun ρ σ Q E => r ρ σ (kBool Q) E
/-- comparisons -/
abbrev OC := AV → AV → St → (Bool → Prop) → Prop
def cNil : AV → WBl := fun _ _ σ Q _ => Q true σ
def kCh2 (vb : AV) (r : AV → WBl) (ρ : Loc) (Q : Bool → St → Prop) (E : PE) (σ : St) : Bool → Prop := fun t => match t with
  | false => Q false σ
  | true => r vb ρ σ Q E
def kCh1 (va : AV) (f : OC) (r : AV → WBl) (ρ : Loc) (Q : Bool → St → Prop) (E : PE) : PQ := fun vb σ => f va vb σ (kCh2 vb r ρ Q E σ)
def cCons (f : OC) (e : WE) (r : AV → WBl) : AV → WBl := fun va ρ σ Q E => e ρ σ (kCh1 va f r ρ Q E) E
def kCmp (c : AV → WBl) (ρ : Loc) (Q : PQ) (E : PE) : PQ := fun va σ => c va ρ σ (kBool Q) E
def vCmp (a : WE) (c : AV → WBl) : WE := fun ρ σ Q E => a ρ σ (kCmp c ρ Q E) E
def brE (a b : WE) (ρ : Loc) (Q : PQ) (E : PE) : Bool → St → Prop := fun t σ => match t with
  | true => a ρ σ Q E
  | false => b ρ σ Q E
def vIte (c a b : WE) : WE := fun ρ σ Q E => c ρ σ (onT (brE a b ρ Q E)) E
def kCall (F : Calls) (f : Nat) (Q : PQ) (E : PE) : List AV → St → Prop := fun vs σ => F f vs σ Q E
def vCall (F : Calls) (f : Nat) (es : WL) : WE := fun ρ σ Q E => es ρ σ (kCall F f Q E) E
def kInit (a : Nat) (Q : PQ) : PQ := fun r σ => match r with | .none => Q (.obj a) σ | _ => False
def kNew (F : Calls) (c f : Nat) (Q : PQ) (E : PE) : List AV → St → Prop := fun vs σ => ∀ a, σ a = Option.none → F f (.obj a :: vs) (upd σ a (.inst c [])) (kInit a Q) E
def vNew (F : Calls) (c f : Nat) (es : WL) : WE := fun ρ σ Q E => es ρ σ (kNew F c f Q E) E
def kMeth2 (F : Calls) (f a : Nat) (Q : PQ) (E : PE) : List AV → St → Prop := fun vs σ => F f (.obj a :: vs) σ Q E
def kMeth (F : Calls) (c m f : Nat) (es : WL) (ρ : Loc) (Q : PQ) (E : PE) : PQ := fun v σ => ∃ a fs, v = .obj a ∧ σ a = some (.inst c fs) ∧ lookF fs m = Option.none ∧ es ρ σ (kMeth2 F f a Q E) E
def vMeth (F : Calls) (c m f : Nat) (e : WE) (es : WL) : WE := fun ρ σ Q E => e ρ σ (kMeth F c m f es ρ Q E) E
def oAttr (c f : Nat) : O1 := fun v σ Q => ∃ a fs u, v = .obj a ∧ σ a = some (.inst c fs) ∧ lookF fs f = some u ∧ Q u σ
def plainV : AV → Bool
  | .obj _ => false
  | .exn _ => false
  | _ => true
inductive Ty | int | bool | str | list | tuple
def isTy : Ty → AV → Bool
  | .int, .int _ => true
  | .int, .bool _ => true
  | .bool, .bool _ => true
  | .str, .str _ => true
  | .list, .ilist _ => true
  | .tuple, .tup _ => true
  | _, _ => false
def oIsi (t : Ty) : O1 := fun v σ Q => plainV v = true ∧ Q (.bool (isTy t v)) σ
def oIsiX (cs : List ClsI) (d : Nat) : O1 := fun v σ Q => ∃ c ci, v = .exn c ∧ cs[c]? = some ci ∧ Q (.bool (ci.sups.contains d)) σ
def oIsiV : O1 := fun v σ Q => ∃ c, v = .exn c ∧ Q (.bool true) σ
/-! ### statements -/
def kE (E : ES) (ρ : Loc) : PE := fun c σ => E c ρ σ
def kAsg (x : Nat) (ρ : Loc) (Q : QS) : PQ := fun v σ => Q .next (setL ρ x v) σ
def sAssign (x : Nat) (e : WE) : WS := fun ρ σ Q E => e ρ σ (kAsg x ρ Q) (kE E ρ)
def kSA2 (c f : Nat) (v : AV) (ρ : Loc) (Q : QS) : PQ := fun u σ => ∃ a fs, u = .obj a ∧ σ a = some (.inst c fs) ∧ fs.length < 100 ∧ Q .next ρ (upd σ a (.inst c (putF f v fs)))
def kSA1 (o : WE) (c f : Nat) (ρ : Loc) (Q : QS) (E : ES) : PQ := fun v σ => o ρ σ (kSA2 c f v ρ Q) (kE E ρ)
def sSetAttr (o : WE) (c f : Nat) (e : WE) : WS := fun ρ σ Q E => e ρ σ (kSA1 o c f ρ Q E) (kE E ρ)
def kExp (ρ : Loc) (Q : QS) : PQ := fun _ σ => Q .next ρ σ
def sExpr (e : WE) : WS := fun ρ σ Q E => e ρ σ (kExp ρ Q) (kE E ρ)
def kRet (ρ : Loc) (Q : QS) : PQ := fun v σ => Q (.ret v) ρ σ
def sRet (e : WE) : WS := fun ρ σ Q E => e ρ σ (kRet ρ Q) (kE E ρ)
def sRet0 : WS := fun ρ σ Q _ => Q (.ret .none) ρ σ
def brS (a b : WS) (ρ : Loc) (Q : QS) (E : ES) : Bool → St → Prop := fun t σ => match t with
  | true => a ρ σ Q E
  | false => b ρ σ Q E
def sIte (c : WE) (a b : WS) : WS := fun ρ σ Q E => c ρ σ (onT (brS a b ρ Q E)) (kE E ρ)
def sPass : WS := fun ρ σ Q _ => Q .next ρ σ
def kSeq (r : WS) (Q : QS) (E : ES) : QS := fun fl ρ σ => match fl with
  | .next => r ρ σ Q E
  | .ret v => Q (.ret v) ρ σ
def bNil : WS := fun ρ σ Q _ => Q .next ρ σ
def bCons (s r : WS) : WS := fun ρ σ Q E => s ρ σ (kSeq r Q E) E
def sRais (c : Nat) : WS := fun ρ σ _ E => E c ρ σ
def kH (Q : QS) : QS := fun fl _ σ => match fl with
  | .ret v => Q (.ret v) [] σ
  | .next => False
def eNoS : ES := fun _ _ _ => False
def hNil : WH := fun c ρ σ _ E => E c ρ σ
def brH (c : Nat) (x : Nat) (b : WS) (r : WH) (ρ : Loc) (σ : St) (Q : QS) (E : ES) : Bool → Prop := fun t => match t with
  | true => b (setL ρ x (.exn c)) σ (kH Q) eNoS
  | false => r c ρ σ Q E
def hCons (cs : List ClsI) (d x : Nat) (b : WS) (r : WH) : WH := fun c ρ σ Q E => ∃ ci, cs[c]? = some ci ∧ brH c x b r ρ σ Q E (ci.sups.contains d)
def kTry (h : WH) (Q : QS) (E : ES) : ES := fun c ρ σ => h c ρ σ Q E
def sTry (b : WS) (h : WH) : WS := fun ρ σ Q E => b ρ σ Q (kTry h Q E)
/- loops over the items xs; G must hold all along -/
def kFL (go : Loc → St → QS → Prop) (Q : QS) : QS := fun fl ρ σ => match fl with
  | .next => go ρ σ Q
  | .ret v => Q (.ret v) ρ σ
def forL (G : St → Prop) (B : AV → Loc → St → QS → Prop) : List AV → Loc → St → QS → Prop
  | [], ρ, σ, Q => G σ ∧ Q .next ρ σ
  | x :: xs, ρ, σ, Q => G σ ∧ B x ρ σ (kFL (forL G B xs) Q)
noncomputable def seqOf (σ : St) : AV → Option (List AV)
  | .ilist xs => some xs
  | .obj a => match σ a with
    | some (.list xs) => some xs
    | _ => Option.none
  | _ => Option.none
def guardOf : AV → List AV → St → Prop
  | .obj a, xs, σ => σ a = some (.list xs)
  | _, _, _ => True
def bOne (x : Nat) (body : WS) (E : ES) : AV → Loc → St → QS → Prop := fun v ρ σ R => body (setL ρ x v) σ R E
def kFor (x : Nat) (body : WS) (ρ : Loc) (Q : QS) (E : ES) : PQ := fun v σ => ∃ xs, seqOf σ v = some xs ∧ forL (guardOf v xs) (bOne x body E) xs ρ σ Q
def sFor (x : Nat) (e : WE) (body : WS) : WS := fun ρ σ Q E => e ρ σ (kFor x body ρ Q E) (kE E ρ)
/-! ### calls -/
def kFn (Q : PQ) : QS := fun fl _ σ => match fl with
  | .ret v => Q v σ
  | .next => Q .none σ
def eFn (E : PE) : ES := fun c _ σ => E c σ
def wpF (P : Prg) : Nat → Calls
  | 0 => fun _ _ _ _ _ => False
  | d + 1 => fun f vs σ Q E => ∃ fd, P.fns[f]? = some fd ∧ vs.length = fd.arity ∧ fd.body (wpF P d) (vs.map some ++ List.replicate (fd.nloc - fd.arity) Option.none) σ (kFn Q) (eFn E)
end Ap
end
section
set_option Elab.async false
set_option genSizeOf false
set_option genSizeOfSpec false
set_option linter.unusedVariables false
set_option linter.unusedSimpArgs false
namespace Ap
open PySem PySem.Calls PyProof.Rows
/-- what the soundness proof speaks of: the text, the world, the heap at the law's call, where the classes lie -/
structure Cx where
  prog : Program
  w : World
  base : Heap
  clsA : Nat → Addr
  fnA : Nat → Addr
  nm : Nat → Str
  mg : Str → Option Value
  mb : Str → Option Value
  ics : List Nat
  xcs : List Nat
abbrev lstO (vs : List Value) (n : Nat) : Obj := { cls := .type "list", data := .seq vs.toArray n }
abbrev tupO (vs : List Value) (n : Nat) : Obj := { cls := .type "tuple", data := .seq vs.toArray n }
def IsL (h : Heap) (a : Addr) (vs : List Value) : Prop := vs.length ≤ 16777216 ∧ ∃ n, h.get? a = some (lstO vs n)
def IsT (h : Heap) (a : Addr) (vs : List Value) : Prop := vs.length ≤ 16777216 ∧ ∃ n, h.get? a = some (tupO vs n)
theorem IsL.isList {h : Heap} {a : Addr} {vs : List Value} (x : IsL h a vs) : h.IsList a vs.toArray := by
  obtain ⟨_, n, e⟩ := x
  exact ⟨_, e, rfl, n, rfl⟩
theorem IsT.isTuple {h : Heap} {a : Addr} {vs : List Value} (x : IsT h a vs) : h.IsTuple a vs.toArray := by
  obtain ⟨_, n, e⟩ := x
  exact ⟨_, e, rfl, n, rfl⟩
mutual
inductive VR (C : Cx) (Z : Nat → Prop) (h : Heap) : AV → Value → Prop
  | none : VR C Z h .none .none
  | bool (b : Bool) : VR C Z h (.bool b) (.bool b)
  | int (i : Int) (t : Tok) : VR C Z h (.int i) (.int i t)
  | str (s : Str) (t : Tok) (ok : PyData.strOk s = true) : VR C Z h (.str s) (.str s t)
  | tup {a : Addr} {vs : List Value} {xs : List AV} (at_ : IsT h a vs) (off : ¬ Z a) (r : VRs C Z h xs vs) : VR C Z h (.tup xs) (.ref a)
  | ilist {a : Addr} {vs : List Value} {xs : List AV} (at_ : IsL h a vs) (off : ¬ Z a) (r : VRs C Z h xs vs) : VR C Z h (.ilist xs) (.ref a)
  | obj (a : Nat) : VR C Z h (.obj a) (.ref a)
  | exn {e : Addr} {o : Obj} {c : Nat} {vs : Array Value} (at_ : h.get? e = some o) (cls : o.cls = .ref (C.clsA c)) (dt : o.data = .fields vs) (dn : o.dict = Option.none) (cx : c ∈ C.xcs) (off : ¬ Z e) : VR C Z h (.exn c) (.ref e)
inductive VRs (C : Cx) (Z : Nat → Prop) (h : Heap) : List AV → List Value → Prop
  | nil : VRs C Z h [] []
  | cons {x : AV} {v : Value} {xs : List AV} {vs : List Value} (hd : VR C Z h x v) (tl : VRs C Z h xs vs) : VRs C Z h (x :: xs) (v :: vs)
end
/-- the objects that are not of Z stay -/
def Kp (Z : Nat → Prop) (h h' : Heap) : Prop := ∀ b o, h.get? b = some o → ¬ Z b → h'.get? b = some o
theorem IsT.kp {h h' : Heap} {Z : Nat → Prop} {a : Addr} {vs : List Value} (k : Kp Z h h') (n : ¬ Z a) (x : IsT h a vs) : IsT h' a vs := by
  obtain ⟨z, m, e⟩ := x
  exact ⟨z, m, k a _ e n⟩
theorem IsL.kp {h h' : Heap} {Z : Nat → Prop} {a : Addr} {vs : List Value} (k : Kp Z h h') (n : ¬ Z a) (x : IsL h a vs) : IsL h' a vs := by
  obtain ⟨z, m, e⟩ := x
  exact ⟨z, m, k a _ e n⟩
/-- Z' grows by what does not lie in the heap -/
def Zg (Z Z' : Nat → Prop) (h : Heap) : Prop := ∀ b, Z' b → Z b ∨ h.get? b = none
theorem Zg.not {Z Z' : Nat → Prop} {h : Heap} (g : Zg Z Z' h) {a : Addr} {o : Obj} (e : h.get? a = some o) (n : ¬ Z a) : ¬ Z' a := fun q => by
  rcases g a q with q | q
  · exact n q
  · rw [e] at q; cases q
theorem Zg.refl (Z : Nat → Prop) (h : Heap) : Zg Z Z h := fun _ q => .inl q
mutual
theorem VR.kp {C : Cx} {Z Z' : Nat → Prop} {h h' : Heap} (k : Kp Z h h') (g : Zg Z Z' h) {x : AV} {v : Value} (r : VR C Z h x v) : VR C Z' h' x v := by
  cases r with
  | none => exact .none
  | bool b => exact .bool b
  | int i t => exact .int i t
  | str s t ok => exact .str s t ok
  | tup at_ off r =>
    refine .tup (at_.kp k off) ?_ (VRs.kp k g r)
    obtain ⟨_, _, e⟩ := at_
    exact g.not e off
  | ilist at_ off r =>
    refine .ilist (at_.kp k off) ?_ (VRs.kp k g r)
    obtain ⟨_, _, e⟩ := at_
    exact g.not e off
  | obj a => exact .obj a
  | exn at_ cls dt dn cx off => exact .exn (k _ _ at_ off) cls dt dn cx (g.not at_ off)
theorem VRs.kp {C : Cx} {Z Z' : Nat → Prop} {h h' : Heap} (k : Kp Z h h') (g : Zg Z Z' h) {xs : List AV} {vs : List Value} (r : VRs C Z h xs vs) : VRs C Z' h' xs vs := by
  cases r with
  | nil => exact .nil
  | cons hd tl => exact .cons (VR.kp k g hd) (VRs.kp k g tl)
end
theorem VRs.length {C : Cx} {Z : Nat → Prop} {h : Heap} : ∀ {xs : List AV} {vs : List Value}, VRs C Z h xs vs → xs.length = vs.length := by
  intro xs
  induction xs with
  | nil => intro vs r; cases r; rfl
  | cons x xs ih => intro vs r; cases r with | cons hd tl => exact congrArg Nat.succ (ih tl)
theorem VRs.append {C : Cx} {Z : Nat → Prop} {h : Heap} {ys : List AV} {us : List Value} (r : VRs C Z h ys us) : ∀ {xs : List AV} {vs : List Value}, VRs C Z h xs vs → VRs C Z h (xs ++ ys) (vs ++ us) := by
  intro xs
  induction xs with
  | nil => intro vs q; cases q; exact r
  | cons x xs ih => intro vs q; cases q with | cons hd tl => exact .cons hd (ih tl)
theorem VRs.get {C : Cx} {Z : Nat → Prop} {h : Heap} : ∀ {xs : List AV} {vs : List Value}, VRs C Z h xs vs → ∀ (i : Nat) (x : AV), xs[i]? = some x → ∃ v, vs[i]? = some v ∧ VR C Z h x v := by
  intro xs
  induction xs with
  | nil => intro vs r i x e; cases e
  | cons y xs ih =>
    intro vs r i x e
    cases r with | cons hd tl =>
    cases i with
    | zero => cases e; exact ⟨_, rfl, hd⟩
    | succ i => exact ih tl i x e
/-! ### the store -/
def FMap (C : Cx) (Z : Nat → Prop) (h : Heap) (fs : List (Nat × AV)) (mA : Str → Option Value) : Prop :=
  (∀ f v, lookF fs f = some v → ∃ u, mA (C.nm f) = some u ∧ VR C Z h v u) ∧ ∀ x, mA x ≠ Option.none → x ∈ fs.map fun p => C.nm p.1
theorem FMap.kp {C : Cx} {Z Z' : Nat → Prop} {h h' : Heap} (k : Kp Z h h') (g : Zg Z Z' h) {fs : List (Nat × AV)} {mA : Str → Option Value} (x : FMap C Z h fs mA) : FMap C Z' h' fs mA := by
  refine ⟨fun f v e => ?_, x.2⟩
  obtain ⟨u, e', r⟩ := x.1 f v e
  exact ⟨u, e', r.kp k g⟩
def ORep (C : Cx) (Z : Nat → Prop) (ow : Nat → Option Nat) (h : Heap) (a : Addr) : AObj → Prop
  | .list xs => ∃ vs, IsL h a vs ∧ VRs C Z h xs vs
  | .dictI es => ∃ kvs, h.DictOf (intKind C.prog C.w) a kvs ∧ (a == sysModules) = false ∧ kvs.map (·.1) = es.map (·.1) ∧ VRs C Z h (es.map (·.2)) (kvs.map (·.2))
  | .dictS es => ∃ kvs, h.DictOf (strKind C.prog C.w) a kvs ∧ (a == sysModules) = false ∧ kvs.map (·.1) = es.map (·.1) ∧ VRs C Z h (es.map (·.2)) (kvs.map (·.2))
  | .inst c fs => ∃ o dx mA, h.get? a = some o ∧ o.cls = .ref (C.clsA c) ∧ (∀ k, o.data ≠ .cls k) ∧ o.dict = some dx ∧ dx ≠ a ∧ ow dx = some a ∧ h.Ns1 dx mA ∧ (c ∈ C.ics ∧ fs.length ≤ 1000) ∧ FMap C Z h fs mA
def Own (σ : St) (ow : Nat → Option Nat) (b : Nat) : Prop := (σ b).isSome = true ∨ (ow b).isSome = true
def Zs (σ : St) (ow : Nat → Option Nat) (fs : List Addr) (b : Nat) : Prop := Own σ ow b ∨ b ∈ fs
/-- the frames that run, and what the walk changes beside them: frames, cells, iterators -/
structure Vo where
  l : List Env
  fs : List Addr
  its : List Addr
abbrev frs (envs : Vo) : List Addr := envs.fs
abbrev zss (envs : Vo) : List Addr := envs.fs ++ envs.its
theorem Vo.sub (envs : Vo) : ∀ b ∈ frs envs, b ∈ zss envs := fun _ h => List.mem_append_left _ h
structure Good (C : Cx) (envs : Vo) (σ : St) (ow : Nat → Option Nat) (s : Shared) : Prop where
  stays : C.base.StaysIn s.heap
  frames : s.heap.FunFrames C.base envs.l
  apart : ∀ b ∈ envs.its, b ∉ envs.fs
  mem : ∀ b, b ∈ zss envs → C.base.get? b = Option.none ∧ ∃ o, s.heap.get? b = some o
  sub : ∀ env ∈ envs.l, ∀ L, env.frame = some L → L ∈ envs.fs
  store : ∀ a o, σ a = some o → ORep C (Zs σ ow (zss envs)) ow s.heap a o
  parts : ∀ b a, ow b = some a → σ b = Option.none ∧ C.base.get? b = Option.none ∧ (s.heap.get? b).isSome = true
  fresh : ∀ a, (σ a).isSome = true → C.base.get? a = Option.none
  off : ∀ L ∈ zss envs, ¬ Own σ ow L
  gens : s.gens = #[]
theorem ORep.live {C : Cx} {Z : Nat → Prop} {ow : Nat → Option Nat} {h : Heap} {a : Addr} {o : AObj} (x : ORep C Z ow h a o) : (h.get? a).isSome = true := by
  cases o with
  | list xs => obtain ⟨_, ⟨_, _, e⟩, _⟩ := x; rw [e]; rfl
  | dictI es => obtain ⟨_, ⟨_, _, _, e, _⟩, _⟩ := x; rw [e]; rfl
  | dictS es => obtain ⟨_, ⟨_, _, _, e, _⟩, _⟩ := x; rw [e]; rfl
  | inst c fs => obtain ⟨_, _, _, e, _⟩ := x; rw [e]; rfl
theorem Good.live {C : Cx} {envs : Vo} {σ : St} {ow : Nat → Option Nat} {s : Shared} (G : Good C envs σ ow s) {b : Addr} (x : Own σ ow b) : ∃ o, s.heap.get? b = some o := by
  rcases x with x | x
  · obtain ⟨o, e⟩ := Option.isSome_iff_exists.mp x
    exact Option.isSome_iff_exists.mp (G.store b o e).live
  · obtain ⟨a, e⟩ := Option.isSome_iff_exists.mp x
    exact Option.isSome_iff_exists.mp (G.parts b a e).2.2
theorem Good.ownBase {C : Cx} {envs : Vo} {σ : St} {ow : Nat → Option Nat} {s : Shared} (G : Good C envs σ ow s) {b : Addr} (x : Own σ ow b) : C.base.get? b = Option.none := by
  rcases x with x | x
  · exact G.fresh b x
  · obtain ⟨a, e⟩ := Option.isSome_iff_exists.mp x
    exact (G.parts b a e).2.1
structure Stp (fs : List Addr) (O O' : Nat → Prop) (s s' : Shared) : Prop where
  keep : ∀ b o, s.heap.get? b = some o → ¬ O b → b ∉ fs → s'.heap.get? b = some o
  frm : ∀ b o, s.heap.get? b = some o → b ∈ fs → ∃ sl, s'.heap.get? b = some { o with slots := sl }
  grow : ∀ b, O b → O' b
  fresh : ∀ b, O' b → O b ∨ s.heap.get? b = Option.none
  gens : s'.gens = s.gens
  drawn : s'.drawn = s.drawn
  os : s'.os = s.os
theorem Stp.refl (fs : List Addr) (O : Nat → Prop) (s : Shared) : Stp fs O O s s := ⟨fun _ _ e _ _ => e, fun _ o e _ => ⟨o.slots, e⟩, fun _ x => x, fun _ x => .inl x, rfl, rfl, rfl⟩
theorem Stp.tk {fs : List Addr} {O O' : Nat → Prop} {s s' : Shared} (x : Stp fs O O' s s') (t : Nat) : Stp fs O O' s { s' with toks := t } := ⟨x.keep, x.frm, x.grow, x.fresh, x.gens, x.drawn, x.os⟩
theorem Stp.trans {fs : List Addr} {O₁ O₂ O₃ : Nat → Prop} {s₁ s₂ s₃ : Shared} (x : Stp fs O₁ O₂ s₁ s₂) (y : Stp fs O₂ O₃ s₂ s₃) : Stp fs O₁ O₃ s₁ s₃ where
  keep := fun b o e n m => y.keep b o (x.keep b o e n m) (fun q => (x.fresh b q).elim n fun z => by rw [e] at z; cases z) m
  frm := fun b o e m => by
    obtain ⟨sl, e1⟩ := x.frm b o e m
    obtain ⟨sl', e2⟩ := y.frm b _ e1 m
    exact ⟨sl', e2⟩
  grow := fun b z => y.grow b (x.grow b z)
  fresh := fun b z => by
    by_cases q : O₁ b
    · exact .inl q
    · refine .inr ?_
      rcases y.fresh b z with z | z
      · exact (x.fresh b z).elim (fun w => absurd w q) id
      · cases e : s₁.heap.get? b with
        | none => rfl
        | some o =>
          by_cases m : b ∈ fs
          · obtain ⟨sl, e1⟩ := x.frm b o e m
            rw [e1] at z; cases z
          · rw [x.keep b o e q m] at z; cases z
  gens := y.gens.trans x.gens
  drawn := y.drawn.trans x.drawn
  os := y.os.trans x.os
theorem Stp.kp {fs zs : List Addr} {O O' : Nat → Prop} {s s' : Shared} (x : Stp fs O O' s s') (hs : ∀ b ∈ fs, b ∈ zs) : Kp (fun b => O b ∨ b ∈ zs) s.heap s'.heap := fun b o e n => x.keep b o e (fun q => n (.inl q)) fun q => n (.inr (hs b q))
theorem Stp.zg {fs zs : List Addr} {O O' : Nat → Prop} {s s' : Shared} (x : Stp fs O O' s s') : Zg (fun b => O b ∨ b ∈ zs) (fun b => O' b ∨ b ∈ zs) s.heap := fun b q => by
  rcases q with q | q
  · exact (x.fresh b q).imp .inl id
  · exact .inl (.inr q)
theorem Stp.vr {C : Cx} {envs : Vo} {σ σ' : St} {ow ow' : Nat → Option Nat} {s s' : Shared} (x : Stp (frs envs) (Own σ ow) (Own σ' ow') s s') {v : AV} {u : Value} (r : VR C (Zs σ ow (zss envs)) s.heap v u) : VR C (Zs σ' ow' (zss envs)) s'.heap v u := r.kp (x.kp envs.sub) x.zg
theorem Stp.vrs {C : Cx} {envs : Vo} {σ σ' : St} {ow ow' : Nat → Option Nat} {s s' : Shared} (x : Stp (frs envs) (Own σ ow) (Own σ' ow') s s') {v : List AV} {u : List Value} (r : VRs C (Zs σ ow (zss envs)) s.heap v u) : VRs C (Zs σ' ow' (zss envs)) s'.heap v u := r.kp (x.kp envs.sub) x.zg
/-! ### names of a frame -/
def LoadsAt (env : Env) (O : Nat → Prop) (h : Heap) (x : Str) (val : Value) : Prop :=
  (env.kindOf x = some .local ∧ ∃ m, h.Ns env.locals m ∧ m x = some val) ∨
  ∃ c, (env.kindOf x = some .cell ∨ env.kindOf x = some .free) ∧ env.cells.lookup x = some c ∧ h.IsCell c (some val) ∧ ¬ O c
structure LocOk (C : Cx) (env : Env) (nms : List Str) (fs : List Addr) (O : Nat → Prop) (h : Heap) (ρ : Loc) : Prop where
  kind : env.scope.kind = .function
  glob : env.globals = mainGlobals
  blt : env.builtins = builtinsNs
  offL : ¬ O env.locals
  val : ∀ i v, getL ρ i = some v → ∃ x val, nms[i]? = some x ∧ VR C (fun b => O b ∨ b ∈ fs) h v val ∧ LoadsAt env O h x val
theorem Ns.slots {h h' : Heap} {a : Addr} {m : Str → Option Value} (k : ∀ o, h.get? a = some o → ∃ sl, h'.get? a = some { o with slots := sl }) (x : h.Ns a m) : h'.Ns a m := by
  obtain ⟨o, es, ep, ho, hd, r⟩ := x
  obtain ⟨sl, e⟩ := k o ho
  exact ⟨_, es, ep, e, hd, r⟩
theorem Stp.up {fs : List Addr} {O O' : Nat → Prop} {s s' : Shared} (x : Stp fs O O' s s') {b : Addr} (n : ¬ O b) (o : Obj) (e : s.heap.get? b = some o) : ∃ sl, s'.heap.get? b = some { o with slots := sl } := by
  by_cases m : b ∈ fs
  · exact x.frm b o e m
  · exact ⟨o.slots, x.keep b o e n m⟩
theorem LocOk.stp {C : Cx} {env : Env} {nms : List Str} {envs : Vo} {O O' : Nat → Prop} {s s' : Shared} {ρ : Loc} (x : Stp (frs envs) O O' s s') (l : LocOk C env nms (zss envs) O s.heap ρ) (lv : ∃ o, s.heap.get? env.locals = some o) : LocOk C env nms (zss envs) O' s'.heap ρ where
  kind := l.kind
  glob := l.glob
  blt := l.blt
  offL := fun q => (x.fresh _ q).elim l.offL fun z => by obtain ⟨o, e⟩ := lv; rw [e] at z; cases z
  val := fun i v e => by
    obtain ⟨y, val, a, r, b⟩ := l.val i v e
    refine ⟨y, val, a, r.kp (x.kp envs.sub) x.zg, ?_⟩
    rcases b with ⟨k, m, hn, hm⟩ | ⟨c, k, hc, hv, hz⟩
    · exact .inl ⟨k, m, Ns.slots (x.up l.offL) hn, hm⟩
    · obtain ⟨o, e, d⟩ := hv
      obtain ⟨sl, e'⟩ := x.up hz o e
      refine .inr ⟨c, k, hc, ⟨_, e', d⟩, fun q => (x.fresh _ q).elim hz fun z => by rw [e] at z; cases z⟩
end Ap
end
section
set_option Elab.async false
set_option linter.unusedVariables false
set_option linter.unusedSimpArgs false
namespace Ap
open PySem PySem.Calls PyProof.Rows
section
variable {C : Cx} {envs : Vo} {σ : St} {ow : Nat → Option Nat} {s : Shared}
theorem Good.tk (G : Good C envs σ ow s) (t : Nat) : Good C envs σ ow { s with toks := t } := ⟨G.stays, G.frames, G.apart, G.mem, G.sub, G.store, G.parts, G.fresh, G.off, G.gens⟩
theorem Stp.toks {fs : List Addr} {O : Nat → Prop} (t : Nat) : Stp fs O O s { s with toks := t } := (Stp.refl fs O s).tk t
theorem ORep.kp {Z Z' : Nat → Prop} {ow ow' : Nat → Option Nat} {h h' : Heap} {a : Addr} (k : Kp Z h h') (g : Zg Z Z' h) (ka : h'.get? a = h.get? a)
    (kd : ∀ dx, ow dx = some a → h'.get? dx = h.get? dx ∧ ow' dx = some a) {o : AObj} (r : ORep C Z ow h a o) : ORep C Z' ow' h' a o := by
  cases o with
  | list xs =>
    obtain ⟨vs, ⟨z, n, e⟩, x⟩ := r
    exact ⟨vs, ⟨z, n, ka.trans e⟩, x.kp k g⟩
  | dictI es =>
    obtain ⟨kvs, ⟨o, e1, ep, e, r⟩, z, x, y⟩ := r
    exact ⟨kvs, ⟨o, e1, ep, ka.trans e, r⟩, z, x, y.kp k g⟩
  | dictS es =>
    obtain ⟨kvs, ⟨o, e1, ep, e, r⟩, z, x, y⟩ := r
    exact ⟨kvs, ⟨o, e1, ep, ka.trans e, r⟩, z, x, y.kp k g⟩
  | inst c fs =>
    obtain ⟨o, dx, mA, e1, e2, e3, e4, e5, e6, e7, e8, r⟩ := r
    exact ⟨o, dx, mA, ka.trans e1, e2, e3, e4, e5, (kd dx e6).2, e7.at (fun o e => (kd dx e6).1.trans e), e8, r.kp k g⟩
/-- the heap has grown, nothing else -/
theorem Good.ext (G : Good C envs σ ow s) {h' : Heap} (k : ∀ b o, s.heap.get? b = some o → h'.get? b = some o) (t : Nat) : Good C envs σ ow { s with heap := h', toks := t } where
  stays := fun b o e => k b o (G.stays b o e)
  frames := G.frames.of_keeps fun b o e _ => ⟨o, k b o e, rfl⟩
  apart := G.apart
  mem := fun b m => ⟨(G.mem b m).1, (G.mem b m).2.imp fun o e => k b o e⟩
  sub := G.sub
  store := fun a o e => by
    have x := G.store a o e
    obtain ⟨oa, ea⟩ := Option.isSome_iff_exists.mp x.live
    exact x.kp (fun b o e _ => k b o e) (Zg.refl _ _) (by rw [ea]; exact k a oa ea) fun dx hd => by
      obtain ⟨od, ed⟩ := Option.isSome_iff_exists.mp (G.parts dx a hd).2.2
      exact ⟨by rw [ed]; exact k dx od ed, hd⟩
  parts := fun b a e => ⟨(G.parts b a e).1, (G.parts b a e).2.1, by
    obtain ⟨od, ed⟩ := Option.isSome_iff_exists.mp (G.parts b a e).2.2
    rw [k b od ed]; rfl⟩
  fresh := G.fresh
  off := G.off
  gens := G.gens
theorem Stp.ext {fs : List Addr} {O : Nat → Prop} {h' : Heap} (k : ∀ b o, s.heap.get? b = some o → h'.get? b = some o) (t : Nat) : Stp fs O O s { s with heap := h', toks := t } :=
  ⟨fun b o e _ _ => k b o e, fun b o e _ => ⟨o.slots, k b o e⟩, fun _ x => x, fun _ x => .inl x, rfl, rfl, rfl⟩
theorem Good.new (G : Good C envs σ ow s) : σ s.heap.objs.size = Option.none ∧ ow s.heap.objs.size = Option.none ∧ s.heap.objs.size ∉ zss envs := by
  refine ⟨?_, ?_, fun m => ?_⟩
  · cases e : σ s.heap.objs.size with
    | none => rfl
    | some o =>
      obtain ⟨ob, q⟩ := G.live (b := s.heap.objs.size) (.inl (by rw [e]; rfl))
      exact absurd (Heap.lt_size q) (Nat.lt_irrefl _)
  · cases e : ow s.heap.objs.size with
    | none => rfl
    | some o =>
      obtain ⟨ob, q⟩ := G.live (b := s.heap.objs.size) (.inr (by rw [e]; rfl))
      exact absurd (Heap.lt_size q) (Nat.lt_irrefl _)
  · obtain ⟨_, o, e⟩ := G.mem _ m
    exact absurd (Heap.lt_size e) (Nat.lt_irrefl _)
theorem Good.newZ (G : Good C envs σ ow s) : ¬ Zs σ ow (zss envs) s.heap.objs.size := by
  obtain ⟨a, b, c⟩ := G.new
  rintro ((q | q) | q)
  · rw [a] at q; cases q
  · rw [b] at q; cases q
  · exact c q
theorem upd_self (σ : St) (a : Nat) (o : AObj) : upd σ a o a = some o := if_pos rfl
theorem upd_ne (σ : St) {a b : Nat} (o : AObj) (h : b ≠ a) : upd σ a o b = σ b := if_neg h
theorem own_upd {a b : Nat} {o : AObj} (h : Own (upd σ a o) ow b) : Own σ ow b ∨ b = a := by
  by_cases e : b = a
  · exact .inr e
  · rcases h with h | h
    · rw [upd_ne σ o e] at h; exact .inl (.inl h)
    · exact .inl (.inr h)
theorem own_up {a b : Nat} {o : AObj} (h : Own σ ow b) : Own (upd σ a o) ow b := by
  by_cases e : b = a
  · subst e; exact .inl (by rw [upd_self]; rfl)
  · rcases h with h | h
    · exact .inl (by rw [upd_ne σ o e]; exact h)
    · exact .inr h
theorem zs_upd {a : Nat} {o : AObj} {fs : List Addr} {h : Heap} (n : h.get? a = Option.none ∨ Own σ ow a) : Zg (Zs σ ow fs) (Zs (upd σ a o) ow fs) h := fun b q => by
  rcases q with q | q
  · rcases own_upd q with q | q
    · exact .inl (.inl q)
    · subst q
      rcases n with n | n
      · exact .inr n
      · exact .inl (.inl n)
  · exact .inl (.inr q)
/-- a new object of the call's own -/
theorem Good.alloc (G : Good C envs σ ow s) {ob : Obj} {o : AObj} {h' : Heap} (k : ∀ b o, s.heap.get? b = some o → h'.get? b = some o) {a : Addr} (na : s.heap.get? a = Option.none) (nf : a ∉ zss envs)
    (live : h'.get? a = some ob) (rep : ORep C (Zs (upd σ a o) ow (zss envs)) ow h' a o) (t : Nat) : Good C envs (upd σ a o) ow { s with heap := h', toks := t } where
  stays := fun b o e => k b o (G.stays b o e)
  frames := G.frames.of_keeps fun b o e _ => ⟨o, k b o e, rfl⟩
  apart := G.apart
  mem := fun b m => ⟨(G.mem b m).1, (G.mem b m).2.imp fun o e => k b o e⟩
  sub := G.sub
  store := fun b o' e => by
    by_cases q : b = a
    · subst q
      rw [upd_self] at e
      cases e
      exact rep
    · rw [upd_ne σ o q] at e
      have x := G.store b o' e
      obtain ⟨oa, ea⟩ := Option.isSome_iff_exists.mp x.live
      exact x.kp (fun b o e _ => k b o e) (zs_upd (.inl na)) (by rw [ea]; exact k b oa ea) fun dx hd => by
        obtain ⟨od, ed⟩ := Option.isSome_iff_exists.mp (G.parts dx b hd).2.2
        exact ⟨by rw [ed]; exact k dx od ed, hd⟩
  parts := fun b c e => by
    obtain ⟨x1, x2, x3⟩ := G.parts b c e
    obtain ⟨od, ed⟩ := Option.isSome_iff_exists.mp x3
    refine ⟨?_, x2, by show (h'.get? b).isSome = true; rw [k b od ed]; rfl⟩
    rw [upd_ne σ o (fun q => by subst q; rw [na] at ed; cases ed)]
    exact x1
  fresh := fun b e => by
    by_cases q : b = a
    · subst q
      cases z : C.base.get? b with
      | none => rfl
      | some o => rw [G.stays b o z] at na; cases na
    · rw [upd_ne σ o q] at e; exact G.fresh b e
  off := fun L hL q => by
    rcases own_upd q with q | q
    · exact G.off L hL q
    · exact nf (q ▸ hL)
  gens := G.gens
theorem Stp.alloc {fs : List Addr} {o : AObj} {h' : Heap} (k : ∀ b o, s.heap.get? b = some o → h'.get? b = some o) {a : Addr} (na : s.heap.get? a = Option.none) (t : Nat) : Stp fs (Own σ ow) (Own (upd σ a o) ow) s { s with heap := h', toks := t } :=
  ⟨fun b o e _ _ => k b o e, fun b o e _ => ⟨o.slots, k b o e⟩, fun _ x => own_up x, fun b x => (own_upd x).imp id fun q => by subst q; exact na, rfl, rfl, rfl⟩
/-- an object of the call's own is changed: at a (a list, a dict) or at its own dict -/
theorem Good.change (G : Good C envs σ ow s) {o₀ o : AObj} {h' : Heap} {a d : Addr} (ha : σ a = some o₀) (hd : d = a ∨ ow d = some a) (k : ∀ b ob, b ≠ d → s.heap.get? b = some ob → h'.get? b = some ob) (kl : (h'.get? d).isSome = true)
    (rep : ORep C (Zs (upd σ a o) ow (zss envs)) ow h' a o) (t : Nat) : Good C envs (upd σ a o) ow { s with heap := h', toks := t } := by
  have hO : Own σ ow d := by
    rcases hd with rfl | hd
    · exact .inl (by rw [ha]; rfl)
    · exact .inr (by rw [hd]; rfl)
  have hK : Kp (Zs σ ow (zss envs)) s.heap h' := fun b ob e n => k b ob (fun q => n (.inl (q ▸ hO))) e
  have hE : ∀ b, (s.heap.get? b).isSome = true → b ≠ d → h'.get? b = s.heap.get? b := fun b hl nd => by
    obtain ⟨ob, e⟩ := Option.isSome_iff_exists.mp hl
    rw [e]; exact k b ob nd e
  refine ⟨fun b ob e => ?_, ?_, G.apart, fun b m => ?_, G.sub, fun b o' e => ?_, fun b c e => ?_, fun b e => ?_, fun L hL q => ?_, G.gens⟩
  · exact k b ob (fun q => by subst q; rw [G.ownBase hO] at e; cases e) (G.stays b ob e)
  · have : ∀ l : List Env, (∀ L ∈ l.filterMap (·.frame), L ≠ d) → s.heap.FunFrames C.base l → h'.FunFrames C.base l := by
      intro l
      induction l with
      | nil => intro _ _; trivial
      | cons env r ih =>
        rintro hn ⟨hk, ⟨L, ob, hf, hb, ho, hdt⟩, hr⟩
        refine ⟨hk, ⟨L, ob, hf, hb, ?_, hdt⟩, ih (fun L hL => hn L ?_) hr⟩
        · exact k L ob (hn L (by simp [List.filterMap_cons, hf])) ho
        · rw [List.filterMap_cons, hf]; exact List.mem_cons_of_mem _ hL
    exact this envs.l (fun L hL q => by
      obtain ⟨env, he, hf⟩ := List.mem_filterMap.mp hL
      exact G.off L (envs.sub _ (G.sub env he L hf)) (q ▸ hO)) G.frames
  · obtain ⟨x, ob, e⟩ := G.mem b m
    exact ⟨x, ob, k b ob (fun q => G.off b m (q ▸ hO)) e⟩
  · by_cases q : b = a
    · subst q
      rw [upd_self] at e
      cases e
      exact rep
    · rw [upd_ne σ o q] at e
      have nb : b ≠ d := fun z => by
        subst z
        rcases hd with hd | hd
        · exact q hd
        · rw [(G.parts _ _ hd).1] at e; cases e
      exact (G.store b o' e).kp hK (zs_upd (.inr (.inl (by rw [ha]; rfl)))) (hE b (G.store b o' e).live nb) fun dx hdx => ⟨hE dx (G.parts _ _ hdx).2.2 (fun z => by
        subst z
        rcases hd with hd | hd
        · subst hd; rw [(G.parts _ _ hdx).1] at ha; cases ha
        · rw [hdx] at hd; cases hd; exact q rfl), hdx⟩
  · obtain ⟨x1, x2, x3⟩ := G.parts b c e
    refine ⟨?_, x2, ?_⟩
    · rw [upd_ne σ o (fun q => by subst q; rw [x1] at ha; cases ha)]; exact x1
    · show (h'.get? b).isSome = true
      by_cases q : b = d
      · subst q; exact kl
      · rw [hE b x3 q]; exact x3
  · by_cases q : b = a
    · subst q; exact G.fresh b (by rw [ha]; rfl)
    · rw [upd_ne σ o q] at e; exact G.fresh b e
  · rcases own_upd q with q | q
    · exact G.off L hL q
    · subst q; exact G.off L hL (.inl (by rw [ha]; rfl))
theorem Stp.change (G : Good C envs σ ow s) {o₀ o : AObj} {h' : Heap} {a d : Addr} (ha : σ a = some o₀) (hd : d = a ∨ ow d = some a) (k : ∀ b ob, b ≠ d → s.heap.get? b = some ob → h'.get? b = some ob) (t : Nat) : Stp (frs envs) (Own σ ow) (Own (upd σ a o) ow) s { s with heap := h', toks := t } := by
  have hO : Own σ ow d := by
    rcases hd with rfl | hd
    · exact .inl (by rw [ha]; rfl)
    · exact .inr (by rw [hd]; rfl)
  refine ⟨fun b ob e n _ => k b ob (fun q => n (q ▸ hO)) e, fun b ob e m => ⟨ob.slots, k b ob (fun q => G.off b (envs.sub _ m) (q ▸ hO)) e⟩, fun _ x => own_up x, fun b x => .inl ?_, rfl, rfl, rfl⟩
  rcases own_upd x with q | q
  · exact q
  · subst q; exact .inl (by rw [ha]; rfl)
end
end Ap
end
section
set_option Elab.async false
set_option linter.unusedVariables false
set_option linter.unusedSimpArgs false
namespace Ap
open PySem PySem.Calls PyProof.Rows
/-- an exception object: made, or with a traceback whose flight is fl -/
def ExO (h : Heap) (e : Addr) (cls : Value) (t : Option (Addr × Value)) : Prop :=
  ∃ oe vs a0, h.get? e = some oe ∧ oe.dict = Option.none ∧ oe.cls = cls ∧ oe.data = .fields vs ∧ vs[0]? = some a0 ∧ vs[2]? = some .none ∧
    (match t with
    | Option.none => vs[1]? = some .none
    | some (T, fl) => vs[1]? = some (.ref T) ∧ T ≠ e ∧ ∃ oT ts, h.get? T = some oT ∧ oT.data = .fields ts ∧ ts[3]? = some fl)
/-- a thrown exception of the text's own; it did not lie in h₀ -/
def ThrA (C : Cx) (ok : Value → Prop) (Z : Nat → Prop) (h₀ : Heap) (e : Addr) (c : Nat) (h : Heap) : Prop :=
  (h₀.get? e = Option.none ∧ ¬ Z e ∧ c ∈ C.xcs) ∧ ∃ t, ExO h e (.ref (C.clsA c)) t ∧ ∀ T fl, t = some (T, fl) → ok fl ∧ h₀.get? T = Option.none ∧ ¬ Z T
abbrev Thr (C : Cx) (Z : Nat → Prop) (h₀ : Heap) (e : Addr) (c : Nat) (h : Heap) : Prop := ThrA C (· = .none) Z h₀ e c h
abbrev ThrS (C : Cx) (L : Addr) (Z : Nat → Prop) (h₀ : Heap) (e : Addr) (c : Nat) (h : Heap) : Prop := ThrA C (fun v => v = .none ∨ v = rawInt L) Z h₀ e c h
theorem ThrA.mono {C : Cx} {ok ok' : Value → Prop} {Z Z' : Nat → Prop} {h₀ h : Heap} {e : Addr} {c : Nat} (a : ∀ v, ok v → ok' v) (b : ∀ a, Z' a → Z a) (x : ThrA C ok Z h₀ e c h) : ThrA C ok' Z' h₀ e c h := by
  obtain ⟨⟨n1, n2, n3⟩, t, x1, x2⟩ := x
  exact ⟨⟨n1, fun q => n2 (b _ q), n3⟩, t, x1, fun T fl e => ⟨a _ (x2 T fl e).1, (x2 T fl e).2.1, fun q => (x2 T fl e).2.2 (b _ q)⟩⟩
/-- what the handled exception looks like, if there is one -/
def HOk (A : Around) (q : Bool) (Z : Nat → Prop) (h : Heap) : Prop :=
  A.handled = Option.none ∨ q = true ∧ ∃ e o vs, A.handled = some (.ref e) ∧ h.get? e = some o ∧ o.data = .fields vs ∧ vs[2]? = some .none ∧ ¬ Z e
structure Ok (C : Cx) (A : Around) (q : Bool) (env : Env) (envs : Vo) (nms : List Str) (ρ : Loc) (σ : St) (ow : Nat → Option Nat) (s : Shared) : Prop where
  good : Good C envs σ ow s
  loc : LocOk C env nms (zss envs) (Own σ ow) s.heap ρ
  hnd : HOk A q (Zs σ ow (zss envs)) s.heap
  live : ∃ o, s.heap.get? env.locals = some o
theorem HOk.stp {A : Around} {q : Bool} {envs : Vo} {σ σ' : St} {ow ow' : Nat → Option Nat} {s s' : Shared} (x : Stp (frs envs) (Own σ ow) (Own σ' ow') s s') (h : HOk A q (Zs σ ow (zss envs)) s.heap) : HOk A q (Zs σ' ow' (zss envs)) s'.heap := by
  rcases h with h | ⟨hq, e, o, vs, h1, h2, h3, h4, h5⟩
  · exact .inl h
  · exact .inr ⟨hq, e, o, vs, h1, x.kp envs.sub _ _ h2 h5, h3, h4, x.zg.not h2 h5⟩
theorem Ok.stp {C : Cx} {A : Around} {q : Bool} {env : Env} {envs : Vo} {nms : List Str} {ρ : Loc} {σ σ' : St} {ow ow' : Nat → Option Nat} {s s' : Shared} (k : Ok C A q env envs nms ρ σ ow s)
    (x : Stp (frs envs) (Own σ ow) (Own σ' ow') s s') (g : Good C envs σ' ow' s') : Ok C A q env envs nms ρ σ' ow' s' :=
  ⟨g, k.loc.stp x k.live, k.hnd.stp x, by
    obtain ⟨o, e⟩ := k.live
    obtain ⟨sl, e'⟩ := x.up k.loc.offL o e
    exact ⟨_, e'⟩⟩
def KV (C : Cx) (envs : Vo) (σ : St) (ow : Nat → Option Nat) (s : Shared) {α β : Type} (R : (Nat → Prop) → Heap → α → β → Prop) (Qa : α → St → Prop) (Q : β → Shared → Prop) : Prop :=
  ∀ v av σ' ow' s', Qa av σ' → Stp (frs envs) (Own σ ow) (Own σ' ow') s s' → Good C envs σ' ow' s' → R (Zs σ' ow' (zss envs)) s'.heap av v → Q v s'
def KX (C : Cx) (envs : Vo) (σ : St) (ow : Nat → Option Nat) (s : Shared) (Ea : PE) (E : Value → Shared → Prop) : Prop :=
  ∀ e c σ' ow' s', Ea c σ' → Stp (frs envs) (Own σ ow) (Own σ' ow') s s' → Good C envs σ' ow' s' → Thr C (Zs σ' ow' (zss envs)) s.heap e c s'.heap → E (.ref e) s'
/-- the tree t does what the abstract W says -/
def Snd (C : Cx) (A : Around) (q : Bool) (env : Env) (envs : Vo) (nms : List Str) (ρ : Loc) {α β : Type} (R : (Nat → Prop) → Heap → α → β → Prop) (t : Sem β) (W : St → (α → St → Prop) → PE → Prop) : Prop :=
  ∀ σ ow s Qa Ea Q E, W σ Qa Ea → Ok C A q env envs nms ρ σ ow s → KV C envs σ ow s R Qa Q → KX C envs σ ow s Ea E → wpAny (model C.prog C.w) A t Q E s
abbrev RV (C : Cx) (Z : Nat → Prop) (h : Heap) (av : AV) (v : Value) : Prop := VR C Z h av v
abbrev RB (C : Cx) (_ : Nat → Prop) (_ : Heap) (a b : Bool) : Prop := a = b
abbrev RL (C : Cx) (Z : Nat → Prop) (h : Heap) (av : List AV) (v : List Value) : Prop := VRs C Z h av v
section
variable {C : Cx} {A : Around} {env : Env} {envs : Vo} {nms : List Str} {ρ : Loc}
theorem ThrA.up {ok : Value → Prop} {Z : Nat → Prop} {h₀ h₁ h : Heap} {e : Addr} {c : Nat} (k : ∀ b, h₁.get? b = Option.none → h₀.get? b = Option.none) (x : ThrA C ok Z h₁ e c h) : ThrA C ok Z h₀ e c h := by
  obtain ⟨⟨n1, n2⟩, t, x1, x2⟩ := x
  exact ⟨⟨k _ n1, n2⟩, t, x1, fun T fl e => ⟨(x2 T fl e).1, k _ (x2 T fl e).2.1, (x2 T fl e).2.2⟩⟩
theorem Stp.back {fs : List Addr} {σ σ' : St} {ow ow' : Nat → Option Nat} {s s' : Shared} (x : Stp fs (Own σ ow) (Own σ' ow') s s') {envs : Vo} (hf : fs = frs envs) (g' : Good C envs σ' ow' s') (b : Addr) (n : s'.heap.get? b = Option.none) : s.heap.get? b = Option.none := by
  cases e : s.heap.get? b with
  | none => rfl
  | some o =>
    exfalso
    by_cases q : Own σ ow b
    · obtain ⟨ob, z⟩ := g'.live (x.grow b q)
      rw [n] at z; cases z
    · obtain ⟨sl, z⟩ := x.up q o e
      rw [n] at z; cases z
theorem KX.stp {σ σ' : St} {ow ow' : Nat → Option Nat} {s s' : Shared} {Ea : PE} {E : Value → Shared → Prop} (x : Stp (frs envs) (Own σ ow) (Own σ' ow') s s') (g : Good C envs σ' ow' s') (k : KX C envs σ ow s Ea E) : KX C envs σ' ow' s' Ea E :=
  fun e c σ'' ow'' s'' a y g' t => k e c σ'' ow'' s'' a (x.trans y) g' (ThrA.up (x.back rfl g) t)
theorem KV.stp {α β : Type} {R : (Nat → Prop) → Heap → α → β → Prop} {Qa : α → St → Prop} {Q : β → Shared → Prop} {σ σ' : St} {ow ow' : Nat → Option Nat} {s s' : Shared} (x : Stp (frs envs) (Own σ ow) (Own σ' ow') s s') (k : KV C envs σ ow s R Qa Q) : KV C envs σ' ow' s' R Qa Q :=
  fun v av σ'' ow'' s'' a y g' r => k v av σ'' ow'' s'' a (x.trans y) g' r
/-! ### values made without a heap -/
theorem KV.val {σ : St} {ow : Nat → Option Nat} {s : Shared} {Qa : PQ} {Q : Value → Shared → Prop} (g : Good C envs σ ow s) (k : KV C envs σ ow s (RV C) Qa Q) {av : AV} {v : Value} (t : Nat) (a : Qa av σ) (r : VR C (Zs σ ow (zss envs)) s.heap av v) : Q v { s with toks := t } :=
  k v av σ ow _ a (Stp.toks t) (g.tk t) r
theorem KV.here {α β : Type} {R : (Nat → Prop) → Heap → α → β → Prop} {σ : St} {ow : Nat → Option Nat} {s : Shared} {Qa : α → St → Prop} {Q : β → Shared → Prop} (g : Good C envs σ ow s) (k : KV C envs σ ow s R Qa Q) {av : α} {v : β} (a : Qa av σ) (r : R (Zs σ ow (zss envs)) s.heap av v) : Q v s :=
  k v av σ ow s a (Stp.refl _ _ _) g r
/-- a new object that nothing changes -/
theorem KV.pushed {σ : St} {ow : Nat → Option Nat} {s : Shared} {Qa : PQ} {Q : Value → Shared → Prop} (g : Good C envs σ ow s) (k : KV C envs σ ow s (RV C) Qa Q) {av : AV} {v : Value} {o : Obj} (t : Nat) (a : Qa av σ)
    (r : VR C (Zs σ ow (zss envs)) (s.heap.push o) av v) : Q v { s with heap := s.heap.push o, toks := t } :=
  have q : ∀ b o', s.heap.get? b = some o' → (s.heap.push o).get? b = some o' := fun _ _ e => Heap.get?_push_of_some o e
  k v av σ ow _ a (Stp.ext q t) (g.ext q t) r
theorem VR.push {σ : St} {ow : Nat → Option Nat} {s : Shared} {o : Obj} {av : AV} {v : Value} (r : VR C (Zs σ ow (zss envs)) s.heap av v) : VR C (Zs σ ow (zss envs)) (s.heap.push o) av v :=
  r.kp (fun _ _ e _ => Heap.get?_push_of_some o e) (Zg.refl _ _)
theorem VRs.push {σ : St} {ow : Nat → Option Nat} {s : Shared} {o : Obj} {av : List AV} {v : List Value} (r : VRs C (Zs σ ow (zss envs)) s.heap av v) : VRs C (Zs σ ow (zss envs)) (s.heap.push o) av v :=
  r.kp (fun _ _ e _ => Heap.get?_push_of_some o e) (Zg.refl _ _)
/-- a new list -/
theorem mkL_snd {σ : St} {ow : Nat → Option Nat} {s : Shared} {Qa : PQ} {Q : Value → Shared → Prop} (g : Good C envs σ ow s) (k : KV C envs σ ow s (RV C) Qa Q) {own : Bool} {xs : List AV} {vs : List Value} {n : Nat} (t : Nat)
    (hz : vs.length ≤ 16777216) (w : mkL own xs σ Qa) (r : VRs C (Zs σ ow (zss envs)) s.heap xs vs) : Q (.ref s.heap.objs.size) { s with heap := s.heap.push { cls := .type "list", data := .seq vs.toArray n }, toks := t } := by
  have q : ∀ b o', s.heap.get? b = some o' → (s.heap.push { cls := .type "list", data := .seq vs.toArray n }).get? b = some o' := fun _ _ e => Heap.get?_push_of_some _ e
  have li : IsL (s.heap.push { cls := .type "list", data := .seq vs.toArray n }) s.heap.objs.size vs := ⟨hz, n, Heap.get?_push_size _ rfl⟩
  have na : s.heap.get? s.heap.objs.size = Option.none := by
    cases e : s.heap.get? s.heap.objs.size with
    | none => rfl
    | some o => exact absurd (Heap.lt_size e) (Nat.lt_irrefl _)
  cases own with
  | false => exact k.pushed g t w (.ilist li g.newZ (r.kp (fun _ _ e _ => q _ _ e) (Zg.refl _ _)))
  | true =>
    refine k _ _ _ ow _ (w s.heap.objs.size g.new.1) (Stp.alloc q na t) (g.alloc (o := .list xs) q na g.new.2.2 (Heap.get?_push_size _ rfl) ⟨vs, li, r.kp (fun _ _ e _ => q _ _ e) (zs_upd (.inl na))⟩ t) (.obj _)
end
end Ap
end
section
set_option Elab.async false
set_option linter.unusedVariables false
set_option linter.unusedSimpArgs false
namespace Ap
open PySem PySem.Calls PyProof.Rows
/-! ### operations: what each asks for and does -/
def onII (f : Int → Int → St → PQ → Prop) : O2 := fun a b σ Q => match a with
  | .int x => (match b with
    | .int y => f x y σ Q
    | _ => False)
  | _ => False
def oAdd : O2 := onII fun x y σ Q => Q (.int (x + y)) σ
def oSub : O2 := onII fun x y σ Q => Q (.int (x - y)) σ
def oMul : O2 := onII fun x y σ Q => (x.natAbs < 2 ^ 63 ∨ y.natAbs < 2 ^ 63) ∧ Q (.int (x * y)) σ
def oMod : O2 := onII fun x y σ Q => y ≠ 0 ∧ Q (.int (x.fmod y)) σ
def oFdiv : O2 := onII fun x y σ Q => (y ≠ 0 ∧ y.natAbs < 1073741824) ∧ Q (.int (x.fdiv y)) σ
def oPow : O2 := onII fun x y σ Q => (0 ≤ y ∧ y ≤ 1000 ∧ x.natAbs < 2 ^ 63) ∧ Q (.int (x ^ y.toNat)) σ
def oAddS : O2 := fun a b σ Q => match a with
  | .str x => (match b with
    | .str y => x.length + y.length ≤ 1000000 ∧ Q (.str (x ++ y)) σ
    | _ => False)
  | _ => False
def oMulS : O2 := fun a b σ Q => match a with
  | .str x => (match b with
    | .int n => (0 ≤ n ∧ n ≤ 1000 ∧ x.length ≤ 1000) ∧ Q (.str (Txt.mul x n)) σ
    | _ => False)
  | _ => False
def oIdxL : O2 := fun a b σ Q => match a with
  | .ilist xs => (match b with
    | .int i => 0 ≤ i ∧ lookV Q σ xs[i.toNat]?
    | _ => False)
  | _ => False
def oIdxT : O2 := fun a b σ Q => match a with
  | .tup xs => (match b with
    | .int i => 0 ≤ i ∧ lookV Q σ xs[i.toNat]?
    | _ => False)
  | _ => False
def oSl (own : Bool) (lo hi : Nat) : O1 := fun v σ Q => match v with
  | .ilist xs => mkL own ((xs.take hi).drop lo) σ Q
  | _ => False
def onIIc (f : Int → Int → Bool) : OC := fun a b σ K => match a with
  | .int x => (match b with
    | .int y => K (f x y)
    | _ => False)
  | _ => False
def cLt : OC := onIIc fun x y => decide (x < y)
def cLe : OC := onIIc fun x y => decide (x ≤ y)
def cGt : OC := onIIc fun x y => decide (x > y)
def cGe : OC := onIIc fun x y => decide (x ≥ y)
def cIsn : OC := fun a b σ K => a = .none ∧ b = .none ∧ K false
def oLen : ON := fun vs σ Q => ∃ xs, vs = [.ilist xs] ∧ Q (.int xs.length) σ
def oMin3 : ON := fun vs σ Q => ∃ a b c, vs = [.int a, .int b, .int c] ∧ Q (.int (if b < a then (if c < b then c else b) else (if c < a then c else a))) σ
def oMax2 : ON := fun vs σ Q => ∃ a b, vs = [.int a, .int b] ∧ Q (.int (if b > a then b else a)) σ
def oIntB : ON := fun vs σ Q => ∃ b, vs = [.bool b] ∧ Q (.int (if b then 1 else 0)) σ
def BinSnd (C : Cx) (op : Operator) (f : O2) : Prop :=
  ∀ (A : Around) (envs : Vo) σ ow s (Qa : PQ) (Q : Value → Shared → Prop) E va vb a b, Good C envs σ ow s → KV C envs σ ow s (RV C) Qa Q → VR C (Zs σ ow (zss envs)) s.heap va a → VR C (Zs σ ow (zss envs)) s.heap vb b → f va vb σ Qa → wpAny (model C.prog C.w) A (binaryOp op a b) Q E s
def IdxSnd (C : Cx) (f : O2) : Prop :=
  ∀ (A : Around) (envs : Vo) σ ow s (Qa : PQ) (Q : Value → Shared → Prop) E va vb a b value slice, (∀ o i, subscripted slice false o i = operate [o, i] (getItem o i)) → Good C envs σ ow s → KV C envs σ ow s (RV C) Qa Q → VR C (Zs σ ow (zss envs)) s.heap va a → VR C (Zs σ ow (zss envs)) s.heap vb b → f va vb σ Qa →
    wpAny (model C.prog C.w) A (subscriptTail value slice a b) Q E s
def CmpSnd (C : Cx) (op : CmpOp) (f : OC) : Prop :=
  ∀ (A : Around) (envs : Vo) σ ow s (K : Bool → Prop) (Q : Value → Shared → Prop) E va vb a b, A.units + 64 < cLine → Good C envs σ ow s → VR C (Zs σ ow (zss envs)) s.heap va a → VR C (Zs σ ow (zss envs)) s.heap vb b → f va vb σ K → (∀ r t, K r → Q (.bool r) { s with toks := t }) →
    wpAny (model C.prog C.w) A (compareOp op a b) Q E s
def BiSnd (C : Cx) (q : Bool) (fv : Value) (f : ON) : Prop :=
  ∀ (A : Around) (envs : Vo) σ ow s (Qa : PQ) (Q : Value → Shared → Prop) E vs vals, (q = false → A.handled = Option.none) → Good C envs σ ow s → KV C envs σ ow s (RV C) Qa Q → VRs C (Zs σ ow (zss envs)) s.heap vs vals → f vs σ Qa → wpAny (model C.prog C.w) A (call fv vals) Q E s
section
variable {C : Cx}
theorem BinSnd.ii {op : Operator} {f : Int → Int → St → PQ → Prop} (h : ∀ (A : Around) (envs : Vo) σ ow s (Qa : PQ) (Q : Value → Shared → Prop) E x y t u, Good C envs σ ow s → KV C envs σ ow s (RV C) Qa Q → f x y σ Qa → wpAny (model C.prog C.w) A (binaryOp op (.int x t) (.int y u)) Q E s) :
    BinSnd C op (onII f) := by
  intro A envs σ ow s Qa Q E va vb a b g k ra rb w
  cases ra <;> first | exact False.elim w | skip
  cases rb <;> first | exact False.elim w | skip
  exact h A envs σ ow s Qa Q E _ _ _ _ g k w
theorem bin_add : BinSnd C .Add oAdd := .ii fun A envs σ ow s Qa Q E x y t u g k w => add_int (k.val g _ w (.int _ _))
theorem bin_sub : BinSnd C .Sub oSub := .ii fun A envs σ ow s Qa Q E x y t u g k w => sub_int (k.val g _ w (.int _ _))
theorem bin_mul : BinSnd C .Mult oMul := .ii fun A envs σ ow s Qa Q E x y t u g k w => by
  refine mul_int (k.val g _ w.2 (.int _ _)) ?_
  rcases w.1 with h | h
  · exact IntMulOk.of_left (intBits_le_64 (by omega) (by omega))
  · exact IntMulOk.of_right (intBits_le_64 (by omega) (by omega))
theorem bin_mod : BinSnd C .Mod oMod := .ii fun A envs σ ow s Qa Q E x y t u g k w => mod_int' w.1 (k.val g _ w.2 (.int _ _))
theorem bin_fdiv : BinSnd C .FloorDiv oFdiv := .ii fun A envs σ ow s Qa Q E x y t u g k w => floordiv_int w.1.1 (k.val g _ w.2 (.int _ _)) (.inl (PyProof.noPylong_small w.1.2))
theorem bin_pow : BinSnd C .Pow oPow := .ii fun A envs σ ow s Qa Q E x y t u g k w => pow_int_small w.1.1 (by have := w.1.2.1; omega) (by have := w.1.2.2; omega) (k.val g _ w.2 (.int _ _))
theorem strOk_append {x y : Str} (hx : PyData.strOk x = true) (hy : PyData.strOk y = true) : PyData.strOk (x ++ y) = true := by
  unfold PyData.strOk at *
  show (x.cps ++ y.cps).all _ = true
  rw [Array.all_append, hx, hy]; rfl
theorem strOk_mul {x : Str} (n : Int) (hx : PyData.strOk x = true) : PyData.strOk (Txt.mul x n) = true := by
  unfold Txt.mul
  split
  · simp [PyData.strOk, Str.empty]
  · split
    · exact hx
    · unfold PyData.strOk at *
      have : ∀ (k : Nat) (acc : Array Nat), acc.all (· < 1114112) = true → (List.foldl (fun a b => a ++ b) acc (List.replicate k x.cps)).all (· < 1114112) = true := by
        intro k
        induction k with
        | zero => intro acc h; exact h
        | succ k ih => intro acc h; rw [List.replicate_succ, List.foldl_cons]; exact ih _ (by rw [Array.all_append, h, hx]; rfl)
      exact this _ _ (by simp)
theorem mulStr_ok {x : Str} {n : Int} (h0 : 0 ≤ n) (h1 : n ≤ 1000) (h2 : x.length ≤ 1000) : MulOk x n := by
  have q : (x.length : Int) * n ≤ 1000000 := Int.le_trans (Int.mul_le_mul_of_nonneg_right (show (x.length : Int) ≤ 1000 by omega) h0) (by omega)
  refine ⟨by rw [Bool.or_eq_false_iff, decide_eq_false_iff_not, decide_eq_false_iff_not]; omega, fun h _ => ?_, fun h _ => ?_⟩
  · have : (x.length : Int) ≤ (2 ^ 63 - 1) / n := Int.le_ediv_of_mul_le (by omega) (by omega)
    omega
  · unfold Builtin.Str.tooLong sizeLine
    have e : ((x.length * n.toNat : Nat) : Int) = (x.length : Int) * n := by rw [Int.natCast_mul, Int.toNat_of_nonneg h0]
    exact decide_eq_false (by omega)
theorem bin_addS : BinSnd C .Add oAddS := by
  intro A envs σ ow s Qa Q E va vb a b g k ra rb w
  cases ra <;> first | exact False.elim w | skip
  cases rb <;> first | exact False.elim w | skip
  rename_i ok1 _ _ ok2
  exact add_str (fun t' tk => k.val g tk w.2 (.str _ _ (strOk_append ok1 ok2))) (by have := w.1; unfold sizeLine; omega)
theorem bin_mulS : BinSnd C .Mult oMulS := by
  intro A envs σ ow s Qa Q E va vb a b g k ra rb w
  cases ra <;> first | exact False.elim w | skip
  cases rb <;> first | exact False.elim w | skip
  rename_i ok1 _ _
  exact SB.mul (mulStr_ok w.1.1 w.1.2.1 w.1.2.2) fun t' tk => k.val g tk w.2 (.str _ _ (strOk_mul _ ok1))
theorem lookV_some {Q : PQ} {σ : St} {o : Option AV} (h : lookV Q σ o) : ∃ v, o = some v ∧ Q v σ := by
  cases o with
  | none => exact False.elim h
  | some v => exact ⟨v, rfl, h⟩
theorem seqIndex_nat {i : Int} {n : Nat} (h0 : 0 ≤ i) (h : i.toNat < n) : seqIndex? i n = some i.toNat := by
  unfold seqIndex?
  simp only [show ¬ (i < 0) by omega, if_false]
  rw [if_pos (by rw [Bool.and_eq_true, decide_eq_true_eq, decide_eq_true_eq]; omega)]
theorem idx_L : IdxSnd C oIdxL := by
  intro A envs σ ow s Qa Q E va vb a b value slice hp g k ra rb w
  cases ra <;> first | exact False.elim w | skip
  rename_i li off r
  cases rb <;> first | exact False.elim w | skip
  obtain ⟨v, e, w'⟩ := lookV_some w.2
  obtain ⟨u, e', r'⟩ := r.get _ _ e
  have hlt := (List.getElem?_eq_some_iff.mp e').1
  have hz := li.1
  have h0 := w.1
  exact tail_any li.isList.typeIs slot_list_getitem.lookup (wpAny_getItem_list li.isList h0 (by omega) (by rw [List.getElem?_toArray]; exact e') (k.here g w' r')) (hp _ _)
theorem idx_T : IdxSnd C oIdxT := by
  intro A envs σ ow s Qa Q E va vb a b value slice hp g k ra rb w
  cases ra <;> first | exact False.elim w | skip
  rename_i li off r
  cases rb <;> first | exact False.elim w | skip
  obtain ⟨v, e, w'⟩ := lookV_some w.2
  obtain ⟨u, e', r'⟩ := r.get _ _ e
  have hlt := (List.getElem?_eq_some_iff.mp e').1
  have hz := li.1
  have h0 := w.1
  exact tail_any (IsTup.typeIs li.isTuple) slot_tuple_getitem.lookup (PyProof.Rows.getItem_tuple li.isTuple (by omega) (by omega) (seqIndex_nat h0 (by rw [List.size_toArray]; exact hlt)) (by rw [List.getElem?_toArray]; exact e') (k.here g w' r')) (hp _ _)
theorem CmpSnd.ii {op : CmpOp} {f : Int → Int → Bool} (h : ∀ (A : Around) s (Q : Value → Shared → Prop) E x y t u, Q (.bool (f x y)) s → wpAny (model C.prog C.w) A (compareOp op (.int x t) (.int y u)) Q E s) : CmpSnd C op (onIIc f) := by
  intro A envs σ ow s K Q E va vb a b hu g ra rb w k
  cases ra <;> first | exact False.elim w | skip
  cases rb <;> first | exact False.elim w | skip
  exact h A s Q E _ _ _ _ (k _ s.toks w)
theorem cmp_lt : CmpSnd C .Lt cLt := .ii fun A s Q E x y t u h => PyProof.Rows.lt_int h
theorem cmp_le : CmpSnd C .LtE cLe := .ii fun A s Q E x y t u h => PyProof.Rows.le_int h
theorem cmp_gt : CmpSnd C .Gt cGt := .ii fun A s Q E x y t u h => PyProof.Rows.gt_int h
theorem cmp_ge : CmpSnd C .GtE cGe := .ii fun A s Q E x y t u h => PyProof.Rows.ge_int h
theorem cmp_isn : CmpSnd C .IsNot cIsn := by
  intro A envs σ ow s K Q E va vb a b hu g ra rb w k
  obtain ⟨rfl, rfl, w⟩ := w
  cases ra
  cases rb
  exact wpAny_isNot_self rfl (k _ s.toks w)
theorem KV.grown {envs : Vo} {σ : St} {ow : Nat → Option Nat} {s : Shared} {Qa : PQ} {Q : Value → Shared → Prop} (g : Good C envs σ ow s) (k : KV C envs σ ow s (RV C) Qa Q) {h' : Heap} {t : Nat} {av : AV} {v : Value} (e : ∀ b o, s.heap.get? b = some o → h'.get? b = some o) (a : Qa av σ)
    (r : VR C (Zs σ ow (zss envs)) h' av v) : Q v { s with heap := h', toks := t } := k v av σ ow _ a (Stp.ext e t) (g.ext e t) r
theorem bi_len : BiSnd C true (.builtin "len") oLen := by
  intro A envs σ ow s Qa Q E vs vals hq g k r w
  obtain ⟨xs, rfl, w⟩ := w
  cases r with | cons r1 r2 =>
  cases r2
  cases r1 with | ilist li off r =>
  refine len_list li.isList (by have := li.1; rw [List.size_toArray]; omega) ?_
  rw [List.size_toArray, ← r.length]
  exact k.val g _ w (.int _ _)
theorem bi_min3 : BiSnd C false (.builtin "min") oMin3 := by
  intro A envs σ ow s Qa Q E vs vals hq g k r w
  obtain ⟨a, b, c, rfl, w⟩ := w
  cases r with | cons r1 r2 =>
  cases r2 with | cons r2 r3 =>
  cases r3 with | cons r3 r4 =>
  cases r4; cases r1; cases r2; cases r3
  refine min_three_ints (hq rfl) fun h' tk e => ?_
  split at w <;> rename_i hc <;> split at w <;> rename_i hd
  · rw [if_pos hc, if_pos hd]; exact k.grown g e w (.int _ _)
  · rw [if_pos hc, if_neg hd]; exact k.grown g e w (.int _ _)
  · rw [if_neg hc, if_pos hd]; exact k.grown g e w (.int _ _)
  · rw [if_neg hc, if_neg hd]; exact k.grown g e w (.int _ _)
theorem bi_max2 : BiSnd C false (.builtin "max") oMax2 := by
  intro A envs σ ow s Qa Q E vs vals hq g k r w
  obtain ⟨a, b, rfl, w⟩ := w
  cases r with | cons r1 r2 =>
  cases r2 with | cons r2 r3 =>
  cases r3; cases r1; cases r2
  refine max_two_ints (hq rfl) fun h' tk e => ?_
  split at w <;> rename_i hc
  · rw [if_pos hc]; exact k.grown g e w (.int _ _)
  · rw [if_neg hc]; exact k.grown g e w (.int _ _)
theorem bi_intB : BiSnd C true (.type "int") oIntB := by
  intro A envs σ ow s Qa Q E vs vals hq g k r w
  obtain ⟨b, rfl, w⟩ := w
  cases r with | cons r1 r2 =>
  cases r2; cases r1
  exact call_int_bool (k.val g _ w (.int _ _))
end
end Ap
end
section
set_option Elab.async false
set_option linter.unusedVariables false
set_option linter.unusedSimpArgs false
namespace Ap
open PySem PySem.Calls PyProof.Rows
/-! ### equality of data -/
noncomputable def mapO {α β : Type} (f : α → Option β) : List α → Option (List β)
  | [] => some []
  | x :: xs => (f x).bind fun d => (mapO f xs).map (d :: ·)
noncomputable def rd : Nat → St → AV → Option PyData
  | 0, _, _ => Option.none
  | n + 1, σ, v => match v with
    | .none => some .none
    | .bool b => some (.bool b)
    | .int i => some (.int i)
    | .str s => some (.str s)
    | .tup xs => (mapO (rd n σ) xs).map .tuple
    | .ilist xs => (mapO (rd n σ) xs).map .list
    | .obj a => (seqOf σ (.obj a)).bind fun xs => (mapO (rd n σ) xs).map .list
    | .exn _ => Option.none
def cEq : OC := fun a b σ K => ∃ x y, rd 8 σ a = some x ∧ rd 8 σ b = some y ∧ K (PyData.eqv x y)
def cNe : OC := fun a b σ K => ∃ x y, rd 8 σ a = some x ∧ rd 8 σ b = some y ∧ K (!PyData.eqv x y)
section
variable {C : Cx} {A : Around} {envs : Vo} {σ : St} {ow : Nat → Option Nat} {s : Shared}
theorem seqOf_obj {a : Nat} {xs : List AV} (e : seqOf σ (.obj a) = some xs) : σ a = some (.list xs) := by
  have e' : (match σ a with | some (.list xs) => some xs | _ => Option.none) = some xs := e
  cases h : σ a with
  | none => rw [h] at e'; cases e'
  | some o =>
    rw [h] at e'
    cases o <;> first | (cases e'; rfl) | cases e'
theorem mapO_reads {n : Nat} {Z : Nat → Prop} {h : Heap} (f : AV → Option PyData) (ih : ∀ v u d, VR C Z h v u → f v = some d → (∃ as, Reads h u d as) ∧ d.canLay0 = true ∧ d.depth ≤ n) :
    ∀ {xs : List AV} {vs : List Value} {ds : List PyData}, VRs C Z h xs vs → mapO f xs = some ds → (∃ as, ReadsAll h vs ds as) ∧ PyData.canLayAll0 ds = true ∧ PyData.depthAll ds ≤ n := by
  intro xs
  induction xs with
  | nil =>
    intro vs ds r e
    cases r
    cases e
    exact ⟨⟨_, .nil⟩, rfl, Nat.zero_le _⟩
  | cons x xs hx =>
    intro vs ds r e
    cases r with | cons hd tl =>
    obtain ⟨d, e1, e2⟩ := Option.bind_eq_some_iff.mp e
    obtain ⟨ds', e3, rfl⟩ := Option.map_eq_some_iff.mp e2
    obtain ⟨⟨as, r⟩, c, dp⟩ := ih _ _ _ hd e1
    obtain ⟨⟨bs, rs⟩, cs, dps⟩ := hx tl e3
    refine ⟨⟨_, .cons r rs⟩, ?_, Nat.max_le.mpr ⟨dp, dps⟩⟩
    show (d.canLay0 && PyData.canLayAll0 ds') = true
    rw [c, cs]; rfl
theorem rd_reads (g : Good C envs σ ow s) : ∀ (n : Nat) (v : AV) (u : Value) (d : PyData), VR C (Zs σ ow (zss envs)) s.heap v u → rd n σ v = some d → (∃ as, Reads s.heap u d as) ∧ d.canLay0 = true ∧ d.depth ≤ n := by
  intro n
  induction n with
  | zero => intro v u d r e; cases e
  | succ n ih =>
    intro v u d r e
    cases r with
    | none => cases e; exact ⟨⟨_, .none⟩, rfl, Nat.zero_le _⟩
    | bool b => cases e; exact ⟨⟨_, .bool b⟩, rfl, Nat.zero_le _⟩
    | int i t => cases e; exact ⟨⟨_, .int i t⟩, rfl, Nat.zero_le _⟩
    | str x t ok => cases e; exact ⟨⟨_, .str x t⟩, ok, Nat.zero_le _⟩
    | tup at_ off r =>
      obtain ⟨ds, e', rfl⟩ := Option.map_eq_some_iff.mp e
      obtain ⟨⟨as, rs⟩, c, dp⟩ := mapO_reads (rd n σ) ih r e'
      obtain ⟨_, m, ho⟩ := at_
      exact ⟨⟨_, .tuple ho rfl rfl rs⟩, c, Nat.succ_le_succ dp⟩
    | ilist at_ off r =>
      obtain ⟨ds, e', rfl⟩ := Option.map_eq_some_iff.mp e
      obtain ⟨⟨as, rs⟩, c, dp⟩ := mapO_reads (rd n σ) ih r e'
      obtain ⟨_, m, ho⟩ := at_
      exact ⟨⟨_, .list ho rfl rfl rs⟩, c, Nat.succ_le_succ dp⟩
    | obj a =>
      obtain ⟨xs, e1, e2⟩ := Option.bind_eq_some_iff.mp e
      obtain ⟨ds, e', rfl⟩ := Option.map_eq_some_iff.mp e2
      obtain ⟨vs, ⟨_, m, ho⟩, r⟩ := g.store a _ (seqOf_obj e1)
      obtain ⟨⟨as, rs⟩, c, dp⟩ := mapO_reads (rd n σ) ih r e'
      exact ⟨⟨_, .list ho rfl rfl rs⟩, c, Nat.succ_le_succ dp⟩
    | exn at_ cls dt off => cases e
theorem cmp_eq : CmpSnd C .Eq cEq := by
  intro A envs σ ow s K Q E va vb a b hu g ra rb w k
  obtain ⟨x, y, e1, e2, w⟩ := w
  obtain ⟨⟨as, r1⟩, c1, d1⟩ := rd_reads g 8 _ _ _ ra e1
  obtain ⟨⟨bs, r2⟩, c2, d2⟩ := rd_reads g 8 _ _ _ rb e2
  exact SeqAt.compareEq_reads r1 r2 c1 c2 (by omega) (k _ s.toks w)
theorem cmp_ne : CmpSnd C .NotEq cNe := by
  intro A envs σ ow s K Q E va vb a b hu g ra rb w k
  obtain ⟨x, y, e1, e2, w⟩ := w
  obtain ⟨⟨as, r1⟩, c1, d1⟩ := rd_reads g 8 _ _ _ ra e1
  obtain ⟨⟨bs, r2⟩, c2, d2⟩ := rd_reads g 8 _ _ _ rb e2
  exact SeqAt.compareNe_reads r1 r2 c1 c2 (by omega) (k _ s.toks w)
/-! ### slices with written bounds -/
theorem VRs.drop {Z : Nat → Prop} {h : Heap} : ∀ {xs : List AV} {vs : List Value}, VRs C Z h xs vs → ∀ n : Nat, VRs C Z h (xs.drop n) (vs.drop n) := by
  intro xs
  induction xs with
  | nil => intro vs r n; cases r; rw [List.drop_nil, List.drop_nil]; exact .nil
  | cons x xs ih =>
    intro vs r n
    cases n with
    | zero => exact r
    | succ n => cases r with | cons hd tl => exact ih tl n
theorem VRs.take {Z : Nat → Prop} {h : Heap} : ∀ {xs : List AV} {vs : List Value}, VRs C Z h xs vs → ∀ n : Nat, VRs C Z h (xs.take n) (vs.take n) := by
  intro xs
  induction xs with
  | nil => intro vs r n; cases r; rw [List.take_nil, List.take_nil]; exact .nil
  | cons x xs ih =>
    intro vs r n
    cases n with
    | zero => exact .nil
    | succ n => cases r with | cons hd tl => exact .cons hd (ih tl n)
theorem slicePick_cut (vs : List Value) (lo hi : Nat) : slicePick vs.toArray (some (lo : Int)) (some (hi : Int)) Option.none = ((vs.take hi).drop lo).toArray := by
  rw [slicePick_plain]
  congr 1
  show List.take (clipAt vs.length (hi : Int) - clipAt vs.length (lo : Int)) (List.drop (clipAt vs.length (lo : Int)) vs) = _
  rw [clipAt_nat, clipAt_nat]
  rw [List.drop_take]
  by_cases h : lo ≤ vs.length
  · rw [Nat.min_eq_left h]
    by_cases h2 : hi ≤ vs.length
    · rw [Nat.min_eq_left h2]
    · rw [Nat.min_eq_right (by omega), List.take_of_length_le (by rw [List.length_drop]; omega), List.take_of_length_le (by rw [List.length_drop]; omega)]
  · rw [List.drop_eq_nil_of_le (by omega), List.drop_eq_nil_of_le (by omega), List.take_nil, List.take_nil]
theorem slice_L {own : Bool} {lo hi : Nat} {value : Expr} {lower upper : Option Expr} {pp : Pos} {va : AV} {a : Value} {t u : Tok} {Qa : PQ} {Q : Value → Shared → Prop} {E : Value → Shared → Prop} (g : Good C envs σ ow s) (k : KV C envs σ ow s (RV C) Qa Q)
    (ra : VR C (Zs σ ow (zss envs)) s.heap va a) (w : oSl own lo hi va σ Qa) :
    wpAny (model C.prog C.w) A (subscriptTail value (.Slice lower upper Option.none pp) a (.ref s.heap.objs.size)) Q E { s with heap := s.heap.push { cls := .type "slice", data := .fields #[.int lo t, .int hi u, .none] } } := by
  have q : ∀ b o', s.heap.get? b = some o' → (s.heap.push { cls := .type "slice", data := .fields #[.int lo t, .int hi u, .none] }).get? b = some o' := fun _ _ e => Heap.get?_push_of_some _ e
  have ra' := VR.push (o := { cls := .type "slice", data := .fields #[.int lo t, .int hi u, .none] }) ra
  cases ra' <;> first | exact False.elim w | skip
  rename_i li off r
  have hz := li.1
  refine tail_any (ops := [.ref s.heap.objs.size, _]) li.isList.typeIs slot_list_getitem.lookup (wpAny_getItem_list_slice li.isList (Heap.IsSliceOf.new _ _ _ _) (.int _ _) (.int _ _) .none (by intro h; cases h) ?_ (by rw [List.size_toArray]; exact hz)) rfl
  rw [slicePick_cut]
  refine mkL_snd (s := { s with heap := s.heap.push { cls := .type "slice", data := .fields #[.int lo t, .int hi u, .none] } }) (g.ext q s.toks) (k.stp (Stp.ext q s.toks)) s.toks ?_ w ((r.take _).drop _)
  rw [List.length_drop, List.length_take]
  omega
end
end Ap
end
section
set_option Elab.async false
set_option genSizeOf false
set_option genSizeOfSpec false
set_option linter.unusedVariables false
set_option linter.unusedSimpArgs false
namespace Ap
open PySem PySem.Calls PyProof.Rows
/-- a def: its names, its scope, its body -/
structure FnT where
  nms : List Str
  sc : Scope
  body : List Stmt
structure Tabs where
  fts : List FnT
  fnN : List Str
  clsN : List Str
  atN : List Str
  bltN : List Str
structure ClsAt (C : Cx) (T : Tabs) (c : Nat) (ci : ClsI) : Prop where
  ex : ∃ nm q N bs sn sub col dd k0 k1 k2 k3 k5 mN, C.base.get? (C.clsA c) = some (excClassObj nm q (C.clsA c) N bs [.type "object"] true sn sub false col dd k0 k1 k2 k3 k5 "object.__new__") ∧ C.base.Ns N mN ∧
    mN "__getattribute__" = Option.none ∧ mN "__getattr__" = Option.none ∧ mN "__setattr__" = Option.none ∧ (∀ f, ci.init = some f → mN "__init__" = some (.ref (C.fnA f))) ∧
    (∀ m f, ci.meths.lookup m = some f → mN (C.nm m) = some (.ref (C.fnA f))) ∧ ∀ k, ci.meths.lookup k = Option.none → k < T.atN.length → mN (C.nm k) = Option.none
/-- isinstance of an exception of the text's own -/
def IsiX (C : Cx) (c : Nat) (t : Value) (b : Bool) : Prop :=
  ∀ A Q E (s : Shared) e o vs, C.base.StaysIn s.heap → s.heap.get? e = some o → o.cls = .ref (C.clsA c) → o.data = .fields vs → o.dict = Option.none → (∀ tk, Q (.bool b) { s with toks := tk }) →
    wpAny (model C.prog C.w) A (call (.builtin "isinstance") [.ref e, t]) Q E s
def ExmX (C : Cx) (c d : Nat) (b : Bool) : Prop :=
  ∀ A Q E (s : Shared) e o vs, C.base.StaysIn s.heap → s.heap.get? e = some o → o.cls = .ref (C.clsA c) → o.data = .fields vs → o.dict = Option.none → Q b s →
    wpAny (model C.prog C.w) A (excMatches (.ref e) (.ref (C.clsA d))) Q E s
structure ExcAt (C : Cx) (c : Nat) : Prop where
  ex : ∃ nm q N bs bm bmB hdct sn sub ab col dd k0 k1 k2 k3 k5 B newId initId mN, C.base.get? (C.clsA c) = some (excClassObj nm q (C.clsA c) N bs bm hdct sn sub ab col dd k0 k1 k2 k3 k5 newId) ∧ C.base.Ns N mN ∧
    mN "__init__" = Option.none ∧ OwnTail C.base bmB bm ∧ ExcBaseFacts B newId initId bmB ∧ bm.contains (.type "BaseException") = true
structure FnOk (C : Cx) (a : Addr) (ft : FnT) (arity : Nat) : Prop where
  ex : ∃ o fd, C.base.get? a = some o ∧ o.cls = .type "function" ∧ o.data = .func fd ∧ fd.body = .stmts ft.body ∧ fd.scope = ft.sc ∧ fd.globals = mainGlobals ∧ fd.builtins = builtinsNs ∧ fd.closure = [] ∧
    C.base.CodeRec fd.code fd.qualname ∧ ∀ vals : List Value, vals.length = arity → bindArgs fd ⟨vals, []⟩ = pure ((ft.nms.take arity).zip vals)
structure CxOk (C : Cx) (T : Tabs) (P : Prg) : Prop where
  g : C.base.Ns mainGlobals C.mg
  b : C.base.Ns builtinsNs C.mb
  nolimit : C.base.NoLimit
  builtins : ∀ x : Str, x ≠ "__name__" → C.mb x = bootBuiltins x
  fnN : ∀ f x, T.fnN[f]? = some x → x ≠ Str.empty → C.mg x = some (.ref (C.fnA f))
  clsN : ∀ c x, T.clsN[c]? = some x → C.mg x = some (.ref (C.clsA c))
  bltN : ∀ x ∈ T.bltN, C.mg x = Option.none
  nm : ∀ k, C.nm k = T.atN.getD k Str.empty
  inj : T.atN.Nodup
  ne : Str.empty ∉ T.atN
  objN : ∀ x ∈ T.atN, typeLookup (.type "object") x = pure Option.none
  fnF : ∀ f, f < T.fnN.length → ∃ o fd, C.base.get? (C.fnA f) = some o ∧ o.cls = .type "function" ∧ o.data = .func fd
  cls : ∀ c ∈ C.ics, ∃ ci, P.cls[c]? = some ci ∧ ClsAt C T c ci
  ics : ∀ c ci, P.cls[c]? = some ci → ci.init ≠ Option.none → c ∈ C.ics
  xcs : ∀ c ci, P.cls[c]? = some ci → ci.init = Option.none → c ∈ C.xcs
  isiC : ∀ c ∈ C.xcs, ∀ d ∈ C.xcs, ∀ ci, P.cls[c]? = some ci → IsiX C c (.ref (C.clsA d)) (ci.sups.contains d)
  isiV : ∀ c ∈ C.xcs, IsiX C c (.type "ValueError") true
  exm : ∀ c ∈ C.xcs, ∀ d ∈ C.xcs, ∀ ci, P.cls[c]? = some ci → ExmX C c d (ci.sups.contains d)
  exc : ∀ c ∈ C.xcs, ExcAt C c
  fns : ∀ f fi, P.fns[f]? = some fi → ∃ ft, T.fts[f]? = some ft ∧ FnOk C (C.fnA f) ft fi.arity
section
variable {C : Cx} {T : Tabs} {P : Prg} {A : Around} {q : Bool} {env : Env} {envs : Vo} {nms : List Str} {ρ : Loc} {σ : St} {ow : Nat → Option Nat} {s : Shared} {Qa : PQ} {Q : Value → Shared → Prop} {E : Value → Shared → Prop}
theorem Good.notBase (g : Good C envs σ ow s) {b : Addr} {o : Obj} (e : C.base.get? b = some o) : ¬ Zs σ ow (zss envs) b := by
  rintro (q | q)
  · rw [g.ownBase q] at e; cases e
  · rw [(g.mem _ q).1] at e; cases e
theorem Good.baseVR (g : Good C envs σ ow s) {v : AV} {u : Value} (r : VR C (fun _ => False) C.base v u) : VR C (Zs σ ow (zss envs)) s.heap v u :=
  r.kp (fun b o e _ => g.stays b o e) fun b q => .inr (by
    cases e : C.base.get? b with
    | none => rfl
    | some o => exact absurd q (g.notBase e))
theorem Good.big (X : CxOk C T P) (g : Good C envs σ ow s) : 3 < s.heap.objs.size := by
  obtain ⟨o, _, _, e, _⟩ := X.g
  exact Heap.lt_size (g.stays _ _ e)
/-- a local name, a captured one -/
theorem var_snd {i : Nat} {x : Str} {pos : Pos} {v : AV} (hx : nms[i]? = some x) (hd : (x == ("__debug__" : Str)) = false) (hn : (x == ("__classdict__" : Str)) = false) (k : Ok C A q env envs nms ρ σ ow s) (kv : KV C envs σ ow s (RV C) Qa Q)
    (e : getL ρ i = some v) (w : Qa v σ) : wpAny (model C.prog C.w) A (eval (.Name x pos) env) Q E s := by
  obtain ⟨y, val, ey, r, l⟩ := k.loc.val i v e
  rw [hx] at ey
  cases ey
  have fin : Q val s := kv.here k.good w r
  rcases l with ⟨kd, m, hns, hm⟩ | ⟨c, kd, hc, hv, _⟩
  · exact wpAny_Name (wpAny_loadName_local k.loc.kind kd hns hm fin) hd
  · rcases kd with kd | kd
    · exact wpAny_Name (wpAny_loadName_cell k.loc.kind kd hc hv fin) hd
    · exact wpAny_Name (wpAny_loadName_free k.loc.kind kd hc hv fin hn) hd
theorem gname {x : Str} {pos : Pos} {v : Value} (X : CxOk C T P) (hx : env.kindOf x = some .globalImplicit) (hd : (x == ("__debug__" : Str)) = false) (k : Ok C A q env envs nms ρ σ ow s) (e : C.mg x = some v) (h : Q v s) :
    wpAny (model C.prog C.w) A (eval (.Name x pos) env) Q E s :=
  Name_function_global k.loc.kind hx (loadGlobal_global (by rw [k.loc.glob]; exact X.g.keeps k.good.stays) e h) hd
theorem bname {x : Str} {pos : Pos} {v : Value} (X : CxOk C T P) (hx : env.kindOf x = some .globalImplicit) (hd : (x == ("__debug__" : Str)) = false) (k : Ok C A q env envs nms ρ σ ow s) (hm : x ∈ T.bltN) (hn : x ≠ "__name__") (hv : bootBuiltins x = some v) (h : Q v s) :
    wpAny (model C.prog C.w) A (eval (.Name x pos) env) Q E s :=
  Name_function_global k.loc.kind hx (loadGlobal_builtin (by rw [k.loc.glob]; exact X.g.keeps k.good.stays) (X.bltN x hm) (by rw [k.loc.blt]; exact X.b.keeps k.good.stays) ((X.builtins x hn).trans hv) h) hd
/-! ### attributes -/
theorem ORep.inst {c : Nat} {fs : List (Nat × AV)} {a : Addr} (g : Good C envs σ ow s) (e : σ a = some (.inst c fs)) : ∃ dx mA, s.heap.Inst a (C.clsA c) mA ∧ ow dx = some a ∧ FMap C (Zs σ ow (zss envs)) s.heap fs mA ∧ (∃ o, s.heap.get? a = some o ∧ o.dict = some dx) ∧ c ∈ C.ics := by
  obtain ⟨o, dx, mA, h1, h2, h3, h4, h5, h6, h7, h8, h9⟩ := g.store a _ e
  exact ⟨dx, mA, ⟨o, h1, h2, h3, .inr ⟨dx, h4, h5, h7⟩⟩, h6, h9, ⟨o, h1, h4⟩, h8.1⟩
theorem CxOk.nm_lt (X : CxOk C T P) {f : Nat} {x : Str} (h : T.atN[f]? = some x) : C.nm f = x ∧ f < T.atN.length := by
  refine ⟨by rw [X.nm, List.getD_eq_getElem?_getD, h]; rfl, (List.getElem?_eq_some_iff.mp h).1⟩
theorem CxOk.mem (X : CxOk C T P) {f : Nat} {x : Str} (h : T.atN[f]? = some x) : x ∈ T.atN := List.mem_of_getElem? h
theorem attr_snd {c f : Nat} {x : Str} {va : AV} {a : Value} {expr : Bool} (X : CxOk C T P) (hx : T.atN[f]? = some x) (hp : ∀ ci, P.cls[c]? = some ci → ci.meths.lookup f = Option.none)
    (g : Good C envs σ ow s) (k : KV C envs σ ow s (RV C) Qa Q) (ra : VR C (Zs σ ow (zss envs)) s.heap va a) (w : oAttr c f va σ Qa) :
    wpAny (model C.prog C.w) A (getAttr a x expr) Q E s := by
  obtain ⟨a, fs, v, rfl, ha, hv, w⟩ := w
  cases ra
  obtain ⟨dx, mA, I, _, fm, _, hci⟩ := ORep.inst g ha
  obtain ⟨ci, h1, h2⟩ := X.cls c hci
  obtain ⟨nm, q, N, bs, sn, sub, col, dd, k0, k1, k2, k3, k5, mN, c1, c2, c3, c4, c5, c6, c7, c8⟩ := h2.ex
  obtain ⟨u, hu, ru⟩ := fm.1 f v hv
  obtain ⟨en, lt⟩ := X.nm_lt hx
  obtain ⟨hh, gg, dd', tt, oo⟩ := s
  refine load_attr (mA := mA) (g.stays _ _ c1) (c2.keeps g.stays) c3 (by rw [← en]; exact c8 f (hp ci h1) lt) (X.objN x (X.mem hx)) I (by rw [← en]; exact hu) ?_ (k.val g _ w ru)
  cases ru <;> rfl
theorem lookF_put {κ : Type} [DecidableEq κ] (k k' : κ) (v : AV) : ∀ es : List (κ × AV), lookF (putF k v es) k' = if k' = k then some v else lookF es k' := by
  have snoc : ∀ es : List (κ × AV), es.any (fun e => e.1 = k) = false → lookF (es ++ [(k, v)]) k' = if k' = k then some v else lookF es k' := by
    intro es h
    unfold lookF
    rw [List.find?_append]
    by_cases q : k' = k
    · subst q
      have : es.find? (fun e => decide (e.1 = k')) = Option.none := by
        rw [List.find?_eq_none]
        intro x hx hq
        have := List.any_eq_false.mp h x hx
        exact this hq
      simp [this]
    · simp [q, Ne.symm q]
  have mp : ∀ es : List (κ × AV), es.any (fun e => e.1 = k) = true → lookF (es.map (fun e => if e.1 = k then (e.1, v) else e)) k' = if k' = k then some v else lookF es k' := by
    intro es
    induction es with
    | nil => intro h; simp at h
    | cons e es ih =>
      intro h
      by_cases q : e.1 = k
      · by_cases z : k' = k
        · subst z; simp [lookF, q]
        · have : ¬ e.1 = k' := fun y => z (y.symm.trans q)
          simp only [List.map_cons, q, if_true, z, if_false]
          have e1 : lookF ((k, v) :: es.map (fun e => if e.1 = k then (e.1, v) else e)) k' = lookF (es.map (fun e => if e.1 = k then (e.1, v) else e)) k' := by simp [lookF, List.find?_cons, Ne.symm z]
          have e2 : lookF (e :: es) k' = lookF es k' := by simp [lookF, List.find?_cons, this]
          rw [e1, e2]
          by_cases a : es.any (fun e => e.1 = k) = true
          · rw [ih a, if_neg z]
          · have hm : es.map (fun e => if e.1 = k then (e.1, v) else e) = es := by
              conv => rhs; rw [← List.map_id es]
              apply List.map_congr_left
              intro y hy
              have : ¬ y.1 = k := fun w => a (List.any_eq_true.mpr ⟨y, hy, by simpa using w⟩)
              simp [this]
            rw [hm]
      · have h' : es.any (fun e => e.1 = k) = true := by simpa [List.any_cons, q] using h
        simp only [List.map_cons, q, if_false]
        by_cases z : e.1 = k'
        · have : ¬ k' = k := fun y => q (z.trans y)
          simp [lookF, List.find?_cons, z, this]
        · have e1 : lookF (e :: es.map (fun e => if e.1 = k then (e.1, v) else e)) k' = lookF (es.map (fun e => if e.1 = k then (e.1, v) else e)) k' := by simp [lookF, List.find?_cons, z]
          have e2 : lookF (e :: es) k' = lookF es k' := by simp [lookF, List.find?_cons, z]
          rw [e1, e2]; exact ih h'
  intro es
  unfold putF
  by_cases h : es.any (fun e => decide (e.1 = k)) = true
  · rw [if_pos h]; exact mp es h
  · rw [if_neg h]; exact snoc es (Bool.eq_false_iff.mpr h)
theorem putF_keys {κ : Type} [DecidableEq κ] (k : κ) (v : AV) (es : List (κ × AV)) : ∀ x, (x ∈ es.map (·.1) ∨ x = k) ↔ x ∈ (putF k v es).map (·.1) := by
  intro x
  unfold putF
  split
  · rename_i h
    have e : (es.map (fun e => if e.1 = k then (e.1, v) else e)).map (·.1) = es.map (·.1) := by
      rw [List.map_map]; apply List.map_congr_left; intro y _; simp only [Function.comp]; split <;> rfl
    rw [e]
    constructor
    · rintro (h1 | rfl)
      · exact h1
      · obtain ⟨y, hy, hq⟩ := List.any_eq_true.mp h
        exact List.mem_map.mpr ⟨y, hy, by simpa using hq⟩
    · exact .inl
  · simp
theorem putF_length {κ : Type} [DecidableEq κ] (k : κ) (v : AV) (es : List (κ × AV)) : (putF k v es).length ≤ es.length + 1 := by
  unfold putF; split <;> simp
theorem setA_snd {f c : Nat} {x : Str} {a : Addr} {v : AV} {u : Value} {fs : List (Nat × AV)} {Q : Unit → Shared → Prop} (X : CxOk C T P) (hx : T.atN[f]? = some x) (hp : P.cls.all (fun ci => (ci.meths.lookup f).isNone) = true)
    (g : Good C envs σ ow s) (ha : σ a = some (.inst c fs)) (hz : fs.length < 100) (r : VR C (Zs σ ow (zss envs)) s.heap v u)
    (k : ∀ s', Stp (frs envs) (Own σ ow) (Own (upd σ a (.inst c (putF f v fs))) ow) s s' → Good C envs (upd σ a (.inst c (putF f v fs))) ow s' → Q () s') :
    wpAny (model C.prog C.w) A (setAttr (.ref a) x u) Q E s := by
  obtain ⟨o, dx, mA, h1, h2, h3, h4, h5, h6, h7, ⟨hci, h8⟩, fm⟩ := g.store a _ ha
  obtain ⟨ci, q1, q2⟩ := X.cls c hci
  obtain ⟨nm, q, N, bs, sn, sub, col, dd, k0, k1, k2, k3, k5, mN, c1, c2, c3, c4, c5, c6, c7, c8⟩ := q2.ex
  obtain ⟨en, lt⟩ := X.nm_lt hx
  have hm : ci.meths.lookup f = Option.none := by
    have := List.all_eq_true.mp hp ci (List.mem_of_getElem? q1)
    simpa using this
  obtain ⟨hh, gg, dd', tt, oo⟩ := s
  have hxC : a ≠ C.clsA c := fun z => by
    rw [z] at ha
    rw [g.fresh _ (by rw [ha]; rfl)] at c1; cases c1
  refine store_attr (ns := fs.map fun p => C.nm p.1) PySem.F.store_object (g.stays _ _ c1) (c2.keeps g.stays) c5 (by rw [← en]; exact c8 f hm lt) (X.objN x (X.mem hx)) hxC ⟨o, h1, h2, h3, .inr ⟨dx, h4, h5, h7⟩⟩ (fun h' tk' I' hk hsame => ?_) (fun y hy => fm.2 y hy) (by rw [List.length_map]; unfold sizeLine; omega)
  obtain ⟨o₁, e1, e2, e3, e4, e5⟩ := hsame o h1
  have eo : o₁ = o := by
    obtain ⟨a1, a2, a3, a4⟩ := o₁
    obtain ⟨b1, b2, b3, b4⟩ := o
    simp only at e2 e3 e4 e5 h4
    subst e2 e3 e4 h4
    rw [e5 dx rfl]
  subst eo
  have keepF : ∀ b ob, b ≠ dx → hh.get? b = some ob → h'.get? b = some ob := fun b ob nb e => by
    by_cases z : b = a
    · subst z; rw [h1] at e; cases e; exact e1
    · exact hk b ob z (fun o₀ dx' z1 z2 => by rw [h1] at z1; cases z1; rw [h4] at z2; cases z2; exact nb) e
  obtain ⟨o₂, i1, i2, i3, i4⟩ := I'
  rw [e1] at i1
  cases i1
  rcases i4 with ⟨i4, _⟩ | ⟨dx', i4, i5, i6⟩
  · rw [h4] at i4; cases i4
  rw [h4] at i4
  cases i4
  have lvd : (h'.get? dx).isSome = true := by obtain ⟨_, _, _, z, _⟩ := i6; rw [z]; rfl
  have hO : Own σ ow dx := .inr (by rw [h6]; rfl)
  have st := Stp.change (o := .inst c (putF f v fs)) g ha (.inr h6) keepF tk'
  have fm' : FMap C (Zs (upd σ a (.inst c (putF f v fs))) ow (zss envs)) h' (putF f v fs) (fun y => if y = x then some u else mA y) := by
    refine ⟨fun f' v' e => ?_, fun y hy => ?_⟩
    · rw [lookF_put] at e
      by_cases z : f' = f
      · subst z
        rw [if_pos rfl] at e
        cases e
        exact ⟨u, by rw [en]; simp, st.vr r⟩
      · rw [if_neg z] at e
        obtain ⟨u', e', r'⟩ := fm.1 f' v' e
        refine ⟨u', ?_, st.vr r'⟩
        have nx : C.nm f' ≠ x := fun y => z (by
          have hf' : f' < T.atN.length := by
            apply Decidable.byContradiction
            intro hn
            rw [X.nm, List.getD_eq_getElem?_getD, List.getElem?_eq_none (by omega)] at y
            exact X.ne (by rw [show Str.empty = x from y]; exact X.mem hx)
          rw [← en] at y
          rw [X.nm, X.nm, List.getD_eq_getElem?_getD, List.getD_eq_getElem?_getD, List.getElem?_eq_getElem hf', List.getElem?_eq_getElem lt] at y
          exact (List.getElem_inj X.inj).mp y)
        show (if C.nm f' = x then some u else mA (C.nm f')) = some u'
        rw [if_neg nx]; exact e'
    · have : y ∈ ((putF f v fs).map (·.1)).map C.nm := by
        by_cases z : y = x
        · subst z
          exact List.mem_map.mpr ⟨f, (putF_keys f v fs f).mp (.inr rfl), en⟩
        · have hy' : mA y ≠ Option.none := by simpa [z] using hy
          have := fm.2 y hy'
          obtain ⟨p, hp1, rfl⟩ := List.mem_map.mp this
          exact List.mem_map.mpr ⟨p.1, (putF_keys f v fs p.1).mp (.inl (List.mem_map.mpr ⟨p, hp1, rfl⟩)), rfl⟩
      rwa [List.map_map] at this
  have z := putF_length f v fs
  exact k _ st (g.change (o := .inst c (putF f v fs)) ha (.inr h6) keepF lvd ⟨o₁, dx, _, e1, h2, h3, h4, h5, h6, i6, ⟨hci, by omega⟩, fm'⟩ tk')
end
end Ap
end
section
set_option Elab.async false
set_option linter.unusedVariables false
set_option linter.unusedSimpArgs false
namespace Ap
open PySem PySem.Calls PyProof.Rows
structure AOkF (A : Around) (envs : Vo) (d : Nat) : Prop where
  frames : A.frames = some envs.l
  depth : A.depth + 3 * d < recursionLimit
  units : A.units + 20 * d + 100 < cLine
structure AOk (A : Around) (envs : Vo) (d : Nat) : Prop where
  frames : A.frames = some envs.l
  depth : A.depth + 3 * d + 2 < recursionLimit
  units : A.units + 20 * d + 110 < cLine
theorem AOk.toF {A : Around} {envs : Vo} {d : Nat} (x : AOk A envs d) : AOkF A envs d := ⟨x.frames, by have := x.depth; omega, by have := x.units; omega⟩
theorem AOk.u64 {A : Around} {envs : Vo} {d : Nat} (x : AOk A envs d) : A.units + 64 < cLine := by have := x.units; omega
theorem AOkF.deeper {A : Around} {envs : Vo} {d : Nat} (x : AOkF A envs (d + 1)) (env : Env) (fs its : List Addr) : AOk (A.deeper env) ⟨env :: envs.l, fs, its⟩ d :=
  ⟨Around.frames_deeper x.frames, by have := x.depth; show A.depth + 1 + 3 * d + 2 < _; omega, by have := x.units; show A.units + 3 + 20 * d + 110 < _; omega⟩
theorem AOk.mark {A : Around} {envs : Vo} {d : Nat} (x : AOk A envs d) (h : Option Value) : AOk (A.mark h) envs d := ⟨x.frames, x.depth, x.units⟩
/-- the calls of the text's defs do what F says -/
def qOf (P : Prg) (f : Nat) : Bool := ((P.fns[f]?).map (·.quiet)).getD false
def SndF (C : Cx) (P : Prg) (d : Nat) (F : Calls) : Prop :=
  ∀ f vs vals σ ow s Qa Ea R A envs, F f vs σ Qa Ea → Good C envs σ ow s → AOkF A envs d → HOk A (qOf P f) (Zs σ ow (zss envs)) s.heap → VRs C (Zs σ ow (zss envs)) s.heap vs vals →
    KV C envs σ ow s (RV C) Qa (fun v s' => R (.ok (.ret v)) s') → KX C envs σ ow s Ea (fun e s' => R (.error e) s') → codeAny (model C.prog C.w) A (.call (.ref (C.fnA f)) ⟨vals, []⟩) R s
def notStar : Expr → Bool
  | .Starred .. => false
  | _ => true
theorem starEach_cons {e : Expr} {rest : List Expr} {env : Env} (h : notStar e = true) : starEach (e :: rest) env = (false, eval e env) :: starEach rest env := by
  cases e <;> first | rfl | exact Bool.noConfusion h
theorem starEach_any {es : List Expr} {env : Env} {pos : Pos} (h : es.all notStar = true) : (backTo pos (starEach es env)).any (·.1) = false := by
  induction es with
  | nil => rfl
  | cons e es ih =>
    rw [List.all_cons, Bool.and_eq_true] at h
    rw [starEach_cons h.1]
    show (false || (backTo pos (starEach es env)).any (·.1)) = false
    rw [ih h.2]; rfl
theorem starEach_all {es : List Expr} {env : Env} {pos : Pos} (h : es.all notStar = true) : (backTo pos (starEach es env)).all (fun x => !x.1) = true := by
  induction es with
  | nil => rfl
  | cons e es ih =>
    rw [List.all_cons, Bool.and_eq_true] at h
    rw [starEach_cons h.1]
    show (true && (backTo pos (starEach es env)).all (fun x => !x.1)) = true
    rw [ih h.2]; rfl
theorem starEach_len {es : List Expr} {env : Env} (h : es.all notStar = true) : (starEach es env).length = es.length := by
  induction es with
  | nil => rfl
  | cons e es ih =>
    rw [List.all_cons, Bool.and_eq_true] at h
    rw [starEach_cons h.1, List.length_cons, ih h.2, List.length_cons]
section
variable {M : Model} {A : Around} {E : Value → Shared → Prop} {s : Shared} {env : Env}
theorem evalArgs_any {f : Value} {es : List Expr} {pos : Pos} {Q : Args → Shared → Prop} (hs : es.all notStar = true) (h : wpAny M A (spliced (backTo pos (starEach es env))) (fun vs s' => Q ⟨vs, []⟩ s') E s) :
    wpAny M A (evalArgs f true (backTo pos (starEach es env)) []) Q E s := by
  cases es with
  | nil =>
    unfold evalArgs
    show wpAny M A (spliced (backTo pos (starEach [] env)) >>= _) Q E s
    refine wpAny_bind (wpAny_mono h (fun vs s' h' => ?_) fun _ _ x => x)
    refine wpAny_bind (wpAny_pure ?_)
    refine wpAny_holding ?_
    exact wpAny_bind (wpAny_pure (wpAny_bind (wpAny_pure (wpAny_pure h'))))
  | cons e es =>
    rw [List.all_cons, Bool.and_eq_true] at hs
    rw [starEach_cons hs.1] at h ⊢
    exact evalArgs_plain h
end
section
variable {C : Cx} {T : Tabs} {P : Prg} {A : Around} {q : Bool} {env : Env} {envs : Vo} {nms : List Str} {ρ : Loc} {σ : St} {ow : Nat → Option Nat} {s : Shared} {Qa : PQ} {Ea : PE} {Q : Value → Shared → Prop} {E : Value → Shared → Prop} {d : Nat} {F : Calls}
theorem call_snd {f : Nat} {vs : List AV} {vals : List Value} (hF : SndF C P d F) (w : F f vs σ Qa Ea) (g : Good C envs σ ow s) (a : AOkF A envs d) (hh : HOk A (qOf P f) (Zs σ ow (zss envs)) s.heap) (r : VRs C (Zs σ ow (zss envs)) s.heap vs vals)
    (kv : KV C envs σ ow s (RV C) Qa Q) (kx : KX C envs σ ow s Ea E) : wpAny (model C.prog C.w) A (call (.ref (C.fnA f)) vals) Q E s :=
  wpAny_call (hF f vs vals σ ow s Qa Ea _ A envs w g a hh r kv kx)
theorem under_make (A : Around) (cc : Addr) (rest : List Value) : (A.under (.builtin "type.__call__" ⟨.ref cc :: rest, []⟩)).frames = A.frames ∧ (A.under (.builtin "type.__call__" ⟨.ref cc :: rest, []⟩)).depth = A.depth + 1 ∧ (A.under (.builtin "type.__call__" ⟨.ref cc :: rest, []⟩)).units = A.units + 1 ∧ (A.under (.builtin "type.__call__" ⟨.ref cc :: rest, []⟩)).handled = A.handled := by
  refine ⟨rfl, ?_, ?_, rfl⟩
  · show A.depth + Code.weight _ = A.depth + 1
    rfl
  · rfl
theorem new_snd {c f : Nat} {ci : ClsI} {vs : List AV} {vals : List Value} (X : CxOk C T P) (hF : SndF C P d F) (hc : P.cls[c]? = some ci) (hi : ci.init = some f) (hlt : f < T.fnN.length)
    (w : ∀ a, σ a = Option.none → F f (.obj a :: vs) (upd σ a (.inst c [])) (kInit a Qa) Ea)
    (g : Good C envs σ ow s) (a : AOk A envs d) (hh : HOk A (qOf P f) (Zs σ ow (zss envs)) s.heap) (r : VRs C (Zs σ ow (zss envs)) s.heap vs vals) (kv : KV C envs σ ow s (RV C) Qa Q) (kx : KX C envs σ ow s Ea E) :
    wpAny (model C.prog C.w) A (call (.ref (C.clsA c)) vals) Q E s := by
  have hci := X.ics c ci hc (by rw [hi]; exact Option.some_ne_none _)
  obtain ⟨ci', q1, q2⟩ := X.cls c hci
  rw [hc] at q1
  cases q1
  obtain ⟨nm, q, N, bs, sn, sub, col, dd, k0, k1, k2, k3, k5, mN, c1, c2, c3, c4, c5, c6, c7, c8⟩ := q2.ex
  obtain ⟨oI, fd, f1, f2, f3⟩ := X.fnF f hlt
  obtain ⟨hh', gg, dd', tt, oo⟩ := s
  refine wpAny_call_obj_init PySem.F.objNew (g.stays _ _ c1) (c2.keeps g.stays) (c6 f hi) (g.stays _ _ f1) f2 fun h' x dx hm => ?_
  obtain ⟨o, i1, i2, i3, i4⟩ := hm.inst
  have nd : dx ≠ x := by
    rcases i4 with ⟨i4, _⟩ | ⟨d', i4, i5, _⟩
    · rw [hm.dict o i1] at i4; cases i4
    · rw [hm.dict o i1] at i4; cases i4; exact i5
  have ns1 : h'.Ns1 dx fun _ => Option.none := by
    rcases i4 with ⟨i4, _⟩ | ⟨d', i4, i5, i6⟩
    · rw [hm.dict o i1] at i4; cases i4
    · rw [hm.dict o i1] at i4; cases i4; exact i6
  have noF : ∀ b, hh'.get? b = Option.none → b ∉ zss envs := fun b e m => by
    obtain ⟨_, o, e'⟩ := g.mem _ m
    have e'' : hh'.get? b = some o := e'
    rw [e] at e''; cases e''
  have sx : σ x = Option.none := by
    cases e : σ x with
    | none => rfl
    | some o =>
      obtain ⟨ob, z⟩ := g.live (b := x) (.inl (by rw [e]; rfl))
      have z' : hh'.get? x = some ob := z
      rw [hm.newX] at z'; cases z'
  have ox : ow x = Option.none := by
    cases e : ow x with
    | none => rfl
    | some o =>
      obtain ⟨ob, z⟩ := g.live (b := x) (.inr (by rw [e]; rfl))
      have z' : hh'.get? x = some ob := z
      rw [hm.newX] at z'; cases z'
  have sdx : σ dx = Option.none := by
    cases e : σ dx with
    | none => rfl
    | some o =>
      obtain ⟨ob, z⟩ := g.live (b := dx) (.inl (by rw [e]; rfl))
      have z' : hh'.get? dx = some ob := z
      rw [hm.newD] at z'; cases z'
  have odx : ow dx = Option.none := by
    cases e : ow dx with
    | none => rfl
    | some o =>
      obtain ⟨ob, z⟩ := g.live (b := dx) (.inr (by rw [e]; rfl))
      have z' : hh'.get? dx = some ob := z
      rw [hm.newD] at z'; cases z'
  -- the ghost owner of the new dict
  let ow' : Nat → Option Nat := fun b => if b = dx then some x else ow b
  have ownU : ∀ b, Own (upd σ x (.inst c [])) ow' b → Own σ ow b ∨ b = x ∨ b = dx := fun b q => by
    by_cases z1 : b = x
    · exact .inr (.inl z1)
    · by_cases z2 : b = dx
      · exact .inr (.inr z2)
      · rcases q with q | q
        · rw [upd_ne σ _ z1] at q; exact .inl (.inl q)
        · exact .inl (.inr (by simpa [ow', z2] using q))
  have ownG : ∀ b, Own σ ow b → Own (upd σ x (.inst c [])) ow' b := fun b q => by
    rcases q with q | q
    · by_cases z1 : b = x
      · subst z1; rw [sx] at q; cases q
      · exact .inl (by rw [upd_ne σ _ z1]; exact q)
    · by_cases z2 : b = dx
      · subst z2; rw [odx] at q; cases q
      · exact .inr (by simpa [ow', z2] using q)
  have zg : Zg (Zs σ ow (zss envs)) (Zs (upd σ x (.inst c [])) ow' (zss envs)) hh' := fun b q => by
    rcases q with q | q
    · rcases ownU b q with q | q | q
      · exact .inl (.inl q)
      · subst q; exact .inr hm.newX
      · subst q; exact .inr hm.newD
    · exact .inl (.inr q)
  have st : Stp (frs envs) (Own σ ow) (Own (upd σ x (.inst c [])) ow') ⟨hh', gg, dd', tt, oo⟩ ⟨h', gg, dd', tt, oo⟩ := by
    refine ⟨fun b o e _ _ => hm.keeps b o e, fun b o e _ => ⟨o.slots, hm.keeps b o e⟩, ownG, fun b q => ?_, rfl, rfl, rfl⟩
    rcases ownU b q with q | q | q
    · exact .inl q
    · subst q; exact .inr hm.newX
    · subst q; exact .inr hm.newD
  have bn : ∀ b, hh'.get? b = Option.none → C.base.get? b = Option.none := fun b e => by
    cases z : C.base.get? b with
    | none => rfl
    | some o => have := g.stays b o z; have : hh'.get? b = some o := this; rw [e] at this; cases this
  have gd : Good C envs (upd σ x (.inst c [])) ow' ⟨h', gg, dd', tt, oo⟩ := by
    refine ⟨fun b o e => hm.keeps b o (g.stays b o e), g.frames.of_keeps fun b o e _ => ⟨o, hm.keeps b o e, rfl⟩, g.apart, fun b m => ⟨(g.mem b m).1, (g.mem b m).2.imp fun o e => hm.keeps b o e⟩, g.sub, fun b o' e => ?_, fun b a' e => ?_, fun b e => ?_, fun L hL q => ?_, g.gens⟩
    · by_cases z : b = x
      · subst z
        rw [upd_self] at e
        cases e
        exact ⟨o, dx, _, i1, i2, i3, hm.dict o i1, nd, by simp [ow'], ns1, ⟨hci, by simp⟩, fun f v e => by simp [lookF] at e, fun y hy => absurd rfl hy⟩
      · rw [upd_ne σ _ z] at e
        have y := g.store b o' e
        obtain ⟨oa, ea⟩ := Option.isSome_iff_exists.mp y.live
        exact y.kp (fun b o e _ => hm.keeps b o e) zg (by rw [ea]; exact hm.keeps b oa ea) fun dx' hd => by
          obtain ⟨od, ed⟩ := Option.isSome_iff_exists.mp (g.parts dx' b hd).2.2
          refine ⟨by rw [ed]; exact hm.keeps dx' od ed, ?_⟩
          have : dx' ≠ dx := fun w => by subst w; rw [odx] at hd; cases hd
          simpa [ow', this] using hd
    · by_cases z : b = dx
      · subst z
        refine ⟨by rw [upd_ne σ _ nd]; exact sdx, bn _ hm.newD, ?_⟩
        obtain ⟨_, _, _, z, _⟩ := ns1
        show (h'.get? b).isSome = true
        rw [z]; rfl
      · have e' : ow b = some a' := by simpa [ow', z] using e
        obtain ⟨x1, x2, x3⟩ := g.parts b a' e'
        obtain ⟨od, ed⟩ := Option.isSome_iff_exists.mp x3
        refine ⟨?_, x2, by show (h'.get? b).isSome = true; rw [hm.keeps b od ed]; rfl⟩
        rw [upd_ne σ _ (fun q => by subst q; have ed' : hh'.get? b = some od := ed; rw [hm.newX] at ed'; cases ed')]
        exact x1
    · by_cases z : b = x
      · subst z; exact bn _ hm.newX
      · rw [upd_ne σ _ z] at e; exact g.fresh b e
    · rcases ownU L q with q | q | q
      · exact g.off L hL q
      · subst q; exact noF _ hm.newX hL
      · subst q; exact noF _ hm.newD hL
  obtain ⟨u1, u2, u3, u4⟩ := under_make A (C.clsA c) vals
  refine call_snd (envs := envs) (vs := .obj x :: vs) hF (w x sx) gd ⟨?_, ?_, ?_⟩ ?_ (.cons (.obj x) (st.vrs r)) ?_ ?_
  · rw [u1]; exact a.frames
  · rw [u2]; have := a.depth; omega
  · rw [u3]; have := a.units; omega
  · have h2 := hh.stp st
    unfold HOk at h2 ⊢
    rw [u4]; exact h2
  · intro v av σ'' ow'' s'' h1 h2 h3 h4
    cases h4 <;> first | exact False.elim h1 | skip
    exact ⟨rfl, kv _ _ σ'' ow'' s'' h1 (st.trans h2) h3 (.obj x)⟩
  · exact kx.stp st gd
end
end Ap
end
section
set_option Elab.async false
set_option linter.unusedVariables false
set_option linter.unusedSimpArgs false
namespace Ap
open PySem PySem.Calls PyProof.Rows
section
variable {C : Cx} {T : Tabs} {P : Prg} {A : Around} {q : Bool} {env : Env} {envs : Vo} {nms : List Str} {ρ : Loc} {σ : St} {ow : Nat → Option Nat} {s : Shared} {Qa : PQ} {Ea : PE} {Q : Value → Shared → Prop} {E : Value → Shared → Prop}
/-- the type that isinstance asks for, as a value -/
def tyV : Ty → Value
  | .int => .type "int"
  | .bool => .type "bool"
  | .str => .type "str"
  | .list => .type "list"
  | .tuple => .type "tuple"
theorem isi_snd {t : Ty} {v : AV} {u : Value} (r : VR C (Zs σ ow (zss envs)) s.heap v u) (w : oIsi t v σ Qa) (h : ∀ tk, Qa (.bool (isTy t v)) σ → Q (.bool (isTy t v)) { s with toks := tk }) : wpAny (model C.prog C.w) A (call (.builtin "isinstance") [u, tyV t]) Q E s := by
  obtain ⟨p, w⟩ := w
  have h' := fun tk => h tk w
  cases r with
  | none => cases t <;> first | exact IsiPair.NoneType_int (h' _) | exact IsiPair.NoneType_bool (h' _) | exact IsiPair.NoneType_str (h' _) | exact IsiPair.NoneType_list (h' _) | exact IsiPair.NoneType_tuple (h' _)
  | bool b => cases t <;> first | exact IsiPair.bool_int (h' _) | exact IsiPair.bool_bool (h' _) | exact IsiPair.bool_str (h' _) | exact IsiPair.bool_list (h' _) | exact IsiPair.bool_tuple (h' _)
  | int i _ => cases t <;> first | exact IsiPair.int_int (h' _) | exact IsiPair.int_bool (h' _) | exact IsiPair.int_str (h' _) | exact IsiPair.int_list (h' _) | exact IsiPair.int_tuple (h' _)
  | str x _ _ => cases t <;> first | exact IsiPair.str_int (h' _) | exact IsiPair.str_bool (h' _) | exact IsiPair.str_str (h' _) | exact IsiPair.str_list (h' _) | exact IsiPair.str_tuple (h' _)
  | ilist at_ off r =>
    obtain ⟨_, n, hx⟩ := at_
    cases t <;> first | exact IsiPair.list_int hx rfl (h' _) | exact IsiPair.list_bool hx rfl (h' _) | exact IsiPair.list_str hx rfl (h' _) | exact IsiPair.list_list hx rfl (h' _) | exact IsiPair.list_tuple hx rfl (h' _)
  | tup at_ off r =>
    obtain ⟨_, n, hx⟩ := at_
    cases t <;> first | exact IsiPair.tuple_int hx rfl (h' _) | exact IsiPair.tuple_bool hx rfl (h' _) | exact IsiPair.tuple_str hx rfl (h' _) | exact IsiPair.tuple_list hx rfl (h' _) | exact IsiPair.tuple_tuple hx rfl (h' _)
  | obj a => cases p
  | exn a b c d e f => cases p
end
end Ap
end
section
set_option Elab.async false
set_option genSizeOf false
set_option linter.unusedVariables false
set_option linter.unusedSimpArgs false
namespace Ap
open PySem PySem.Calls PyProof.Rows
/-- what a traceback's making changes: the exception, its entry, the slots of frames -/
structure Xc (fs : List Addr) (e : Addr) (t : Option (Addr × Value)) (h h' : Heap) : Prop where
  keep : ∀ b o, h.get? b = some o → b ∉ fs → ((b ≠ e ∧ ∀ fl, t ≠ some (b, fl)) ∨ ∀ vs, o.data ≠ .fields vs) → h'.get? b = some o
  frm : ∀ b o, h.get? b = some o → (∀ vs, o.data ≠ .fields vs) → ∃ sl, h'.get? b = some { o with slots := sl }
  fld : ∀ b o vs, h.get? b = some o → o.data = .fields vs → ∃ o' vs', h'.get? b = some o' ∧ o'.cls = o.cls ∧ o'.dict = o.dict ∧ o'.data = .fields vs' ∧ vs'[2]? = vs[2]?
theorem Xc.refl (fs : List Addr) (e : Addr) (t : Option (Addr × Value)) (h : Heap) : Xc fs e t h h := ⟨fun _ _ e _ _ => e, fun _ o e _ => ⟨o.slots, e⟩, fun _ o vs e d => ⟨o, vs, e, rfl, rfl, d, rfl⟩⟩
theorem Xc.live {fs : List Addr} {e : Addr} {t : Option (Addr × Value)} {h h' : Heap} (x : Xc fs e t h h') {b : Addr} {o : Obj} (eb : h.get? b = some o) : ∃ o', h'.get? b = some o' := by
  by_cases q : ∃ vs, o.data = .fields vs
  · obtain ⟨vs, d⟩ := q
    obtain ⟨o', _, z, _⟩ := x.fld b o vs eb d
    exact ⟨o', z⟩
  · obtain ⟨sl, z⟩ := x.frm b o eb fun vs d => q ⟨vs, d⟩
    exact ⟨_, z⟩
section
variable {M : Model} {A : Around} {E : Value → Shared → Prop} {s : Shared} {env : Env}
/-- one field of a record is set -/
theorem upd_fields {h : Heap} {a : Addr} {o : Obj} {vs : Array Value} (i : Nat) (x : Value) (ho : h.get? a = some o) (hd : o.data = .fields vs) :
    (h.update a (Obj.mapFields (·.setIfInBounds i x))).get? a = some { o with data := .fields (vs.setIfInBounds i x) } ∧ ∀ b, b ≠ a → (h.update a (Obj.mapFields (·.setIfInBounds i x))).get? b = h.get? b := by
  have hd' := Obj.data_mapFields hd (·.setIfInBounds i x)
  refine ⟨?_, fun b hb => Heap.get?_update_other _ _ (Ne.symm hb)⟩
  rw [Heap.get?_update_self (Obj.mapFields (·.setIfInBounds i x)) ho (Obj.isFreed_of_fields hd')]
  obtain ⟨c1, c2, c3, c4⟩ := o
  simp only at hd
  subst hd
  rfl
theorem flight_low {e T : Addr} {cls fl : Value} {f : Option Addr} {Q : Unit → Shared → Prop} (x : ExO s.heap e cls (some (T, fl)))
    (h : ∀ h', Xc [] e (some (T, fl)) s.heap h' → ExO h' e cls (some (T, f.elim .none fun f => rawInt f)) → Q () { s with heap := h' }) : wpAny M A (setFlight (.ref e) f) Q E s := by
  obtain ⟨oe, vs, a0, x1, x2, x3, x4, x5, x6, x7, x8, oT, ts, x9, x10, x11⟩ := x
  unfold setFlight
  refine wpAny_bind (wpAny_field x1 x4 x7 ?_)
  rw [if_pos (show (Value.ref T != Value.none) = true from by simp)]
  have h3 := (Array.getElem?_eq_some_iff.mp x11).1
  refine wpAny_setField x9 x10 h3 ?_
  obtain ⟨u1, u2⟩ := upd_fields 3 (f.elim Value.none fun f => rawInt f) x9 x10
  have ne : ∀ b o, s.heap.get? b = some o → (∀ vs, o.data ≠ .fields vs) → b ≠ T := fun b o eb nd q => by subst q; rw [x9] at eb; cases eb; exact nd _ x10
  refine h _ ⟨fun b o eb _ nb => (u2 b (nb.elim (fun nb q => nb.2 fl (by rw [q])) (ne b o eb))).trans eb, fun b o eb nd => ⟨o.slots, (u2 b (ne b o eb nd)).trans eb⟩, fun b o ws eb db => ?_⟩ ⟨oe, vs, a0, (u2 e (Ne.symm x8)).trans x1, x2, x3, x4, x5, x6, x7, x8, _, _, u1, rfl, by simp [h3]⟩
  by_cases q : b = T
  · subst q
    rw [x9] at eb
    cases eb
    rw [x10] at db
    cases db
    exact ⟨_, _, u1, rfl, rfl, rfl, by simp⟩
  · exact ⟨o, ws, (u2 b q).trans eb, rfl, rfl, db, rfl⟩
theorem note_low {base : Heap} {outer : List Env} {L e : Addr} {cls : Value} {t : Option (Addr × Value)} {Q : Unit → Shared → Prop}
    (hfr : A.frames = some (env :: outer)) (hl : s.heap.FunFrames base (env :: outer)) (hf : env.frame = some L) (x : ExO s.heap e cls t)
    (h : ∀ h' T', Xc ((env :: outer).filterMap (·.frame)) e t s.heap h' → ExO h' e cls (some (T', rawInt L)) → (s.heap.get? T' = Option.none ∨ ∃ fl, t = some (T', fl)) → Q () { s with heap := h' }) :
    wpAny M A (noteFrame (.ref e) env) Q E s := by
  have entry : ∀ (s₁ : Shared) (oe : Obj) (vs : Array Value) (head a0 : Value) (b : Bool) (Q' : Unit → Shared → Prop), s₁.heap.FunFrames base (env :: outer) → s₁.heap.get? e = some oe → oe.data = .fields vs → 1 < vs.size →
      (∀ h', (∀ b o, s₁.heap.get? b = some o → b ≠ e → b ∉ (env :: outer).filterMap (·.frame) → h'.get? b = some o) → (∀ b o, s₁.heap.get? b = some o → b ∈ (env :: outer).filterMap (·.frame) → ∃ sl, h'.get? b = some { o with slots := sl }) →
        (∃ T' oT ts, s₁.heap.get? T' = Option.none ∧ T' ≠ e ∧ h'.get? e = some { oe with data := .fields (vs.setIfInBounds 1 (.ref T')) } ∧ h'.get? T' = some oT ∧ oT.data = .fields ts ∧ ts[3]? = some (rawInt L)) → Q' () { s₁ with heap := h' }) →
      wpAny M A (do setField (.ref e) 1 (← EntryCells.newEntry head (← frameOf env) .none (rawInt L) .none (← entryPlaceOf L b))) Q' E s₁ := by
    intro s₁ oe vs head a0 b Q' hl he hd hsz hQ
    have hene : e ∉ (env :: outer).filterMap (·.frame) := fun hm => by
      obtain ⟨_, o, ho, hnf⟩ := hl.mem hm
      rw [he] at ho; injection ho with ho; subst ho; exact hnf vs hd
    refine wpAny_bind (wpAny_frameOf_fun hfr hl hf fun h₁ hs₁ => ?_)
    refine wpAny_bind (wpAny_entryPlaceOf fun pl hpl => ?_)
    unfold EntryCells.newEntry newFields
    refine wpAny_bind (wpAny_newObj_type ?_ (hpl.sizeOk5 _ _ _ _ _))
    have he₁ : h₁.get? e = some oe := (hs₁.2.1 e hene).trans he
    have he₂ := Heap.get?_push_of_some (h := h₁) { cls := .type "traceback", dict := none, data := .fields ([head, .ref L, .none, rawInt L, .none] ++ (if pl.isEmpty then List.replicate 6 Value.none else pl)).toArray } he₁
    refine wpAny_setField he₂ hd hsz ?_
    have hTe : h₁.objs.size ≠ e := Nat.ne_of_gt (Heap.lt_size he₁)
    obtain ⟨u1, u2⟩ := upd_fields 1 (Value.ref h₁.objs.size) he₂ hd
    refine hQ _ (fun b o eb ne nf => ?_) (fun b o eb m => ?_) ⟨h₁.objs.size, _, _, ?_, hTe, u1, (u2 _ hTe).trans (Heap.get?_push_size h₁ rfl), rfl, ?_⟩
    · exact (u2 b ne).trans (Heap.get?_push_of_some _ ((hs₁.2.1 b nf).trans eb))
    · obtain ⟨sl, hs⟩ := hs₁.2.2 b o eb
      exact ⟨sl, (u2 b fun q => hene (q ▸ m)).trans (Heap.get?_push_of_some _ hs)⟩
    · cases z : s₁.heap.get? h₁.objs.size with
      | none => rfl
      | some o =>
        obtain ⟨sl, hs⟩ := hs₁.2.2 _ o z
        exact absurd (Heap.lt_size hs) (Nat.lt_irrefl _)
    · rcases hpl with rfl | ⟨_, _, _, _, _, _, _, rfl⟩ <;> simp
  obtain ⟨oe, vs, a0, x1, x2, x3, x4, x5, x6, x7⟩ := x
  unfold noteFrame
  simp only [hf]
  cases t with
  | none =>
    refine wpAny_bind (wpAny_field x1 x4 x7 ?_)
    rw [if_neg (by decide)]
    have hsz := (Array.getElem?_eq_some_iff.mp x7).1
    refine entry s oe vs .none a0 _ Q hl x1 x4 hsz fun h' k1 k2 ⟨T', oT, ts, y1, y2, y3, y4, y5, y6⟩ => ?_
    have ne : ∀ b o, s.heap.get? b = some o → (∀ vs, o.data ≠ .fields vs) → b ≠ e := fun b o eb nd q => by subst q; rw [x1] at eb; cases eb; exact nd _ x4
    refine h h' T' ⟨fun b o eb nf nb => k1 b o eb (nb.elim (fun z => z.1) (ne b o eb)) nf, fun b o eb nd => ?_, fun b o ws eb db => ?_⟩ ⟨_, _, a0, y3, x2, x3, rfl, by simpa using x5, by simpa using x6, by simp [hsz], y2, oT, ts, y4, y5, y6⟩ (.inl y1)
    · by_cases m : b ∈ (env :: outer).filterMap (·.frame)
      · exact k2 b o eb m
      · exact ⟨o.slots, k1 b o eb (ne b o eb nd) m⟩
    by_cases q : b = e
    · subst q
      rw [x1] at eb
      cases eb
      rw [x4] at db
      cases db
      exact ⟨_, _, y3, rfl, rfl, rfl, by simp⟩
    · by_cases m : b ∈ (env :: outer).filterMap (·.frame)
      · obtain ⟨_, o', ho', hnf⟩ := hl.mem m
        rw [eb] at ho'
        cases ho'
        exact absurd db (hnf ws)
      · exact ⟨o, ws, k1 b o eb q m, rfl, rfl, db, rfl⟩
  | some p =>
    obtain ⟨T, fl⟩ := p
    obtain ⟨x7, x8, oT, ts, x9, x10, x11⟩ := x7
    refine wpAny_bind (wpAny_field x1 x4 x7 ?_)
    rw [if_pos (show (Value.ref T != Value.none) = true from by simp)]
    refine wpAny_bind (wpAny_field x9 x10 x11 ?_)
    by_cases hq : (fl == rawInt L) = true
    · rw [if_pos hq]
      rw [beq_iff_eq] at hq
      subst hq
      exact wpAny_pure (h s.heap T (Xc.refl _ _ _ _) ⟨oe, vs, a0, x1, x2, x3, x4, x5, x6, x7, x8, oT, ts, x9, x10, x11⟩ (.inr ⟨_, rfl⟩))
    · rw [if_neg hq]
      have h3 := (Array.getElem?_eq_some_iff.mp x11).1
      have hsz := (Array.getElem?_eq_some_iff.mp x7).1
      refine wpAny_bind (wpAny_setField x9 x10 h3 ?_)
      obtain ⟨u1, u2⟩ := upd_fields 3 Value.none x9 x10
      have hl' : (s.heap.update T (Obj.mapFields (·.setIfInBounds 3 Value.none))).FunFrames base (env :: outer) := hl.of_keeps fun b o hb hnf => ⟨o, (u2 b fun q => by subst q; rw [x9] at hb; cases hb; exact hnf _ x10).trans hb, rfl⟩
      refine entry { s with heap := s.heap.update T (Obj.mapFields (·.setIfInBounds 3 Value.none)) } oe vs (.ref T) a0 _ Q hl' ((u2 e (Ne.symm x8)).trans x1) x4 hsz fun h' k1 k2 ⟨T', oT', ts', y1, y2, y3, y4, y5, y6⟩ => ?_
      have nTf : T ∉ (env :: outer).filterMap (·.frame) := fun hm => by
        obtain ⟨_, o, ho, hnf⟩ := hl.mem hm
        rw [x9] at ho; injection ho with ho; subst ho; exact hnf ts x10
      have sT : h'.get? T = some { oT with data := .fields (ts.setIfInBounds 3 Value.none) } := k1 T _ u1 x8 nTf
      have ne : ∀ b o, s.heap.get? b = some o → (∀ vs, o.data ≠ .fields vs) → b ≠ e ∧ b ≠ T := fun b o eb nd => ⟨fun q => by subst q; rw [x1] at eb; cases eb; exact nd _ x4, fun q => by subst q; rw [x9] at eb; cases eb; exact nd _ x10⟩
      have keepB : ∀ b o, s.heap.get? b = some o → b ≠ e → b ≠ T → b ∉ (env :: outer).filterMap (·.frame) → h'.get? b = some o := fun b o eb n1 n2 nf => k1 b o ((u2 b n2).trans eb) n1 nf
      refine h h' T' ⟨fun b o eb nf nb => nb.elim (fun z => keepB b o eb z.1 (fun q => z.2 fl (by rw [q])) nf) fun z => keepB b o eb (ne b o eb z).1 (ne b o eb z).2 nf, fun b o eb nd => ?_, fun b o ws eb db => ?_⟩ ⟨_, _, a0, y3, x2, x3, rfl, by simpa using x5, by simpa using x6, by simp [hsz], y2, oT', ts', y4, y5, y6⟩ (.inl ?_)
      · by_cases m : b ∈ (env :: outer).filterMap (·.frame)
        · exact k2 b o ((u2 b (ne b o eb nd).2).trans eb) m
        · exact ⟨o.slots, keepB b o eb (ne b o eb nd).1 (ne b o eb nd).2 m⟩
      · by_cases q : b = e
        · subst q
          rw [x1] at eb
          cases eb
          rw [x4] at db
          cases db
          exact ⟨_, _, y3, rfl, rfl, rfl, by simp⟩
        · by_cases q' : b = T
          · subst q'
            rw [x9] at eb
            cases eb
            rw [x10] at db
            cases db
            exact ⟨_, _, sT, rfl, rfl, rfl, by simp⟩
          · by_cases m : b ∈ (env :: outer).filterMap (·.frame)
            · obtain ⟨_, o', ho', hnf⟩ := hl.mem m
              rw [eb] at ho'
              cases ho'
              exact absurd db (hnf ws)
            · exact ⟨o, ws, k1 b o ((u2 b q').trans eb) q m, rfl, rfl, db, rfl⟩
      · by_cases q : T' = T
        · subst q
          have y1' : (s.heap.update T' (Obj.mapFields (·.setIfInBounds 3 Value.none))).get? T' = Option.none := y1
          rw [u1] at y1'; cases y1'
        · have y1' : (s.heap.update T (Obj.mapFields (·.setIfInBounds 3 Value.none))).get? T' = Option.none := y1
          rw [u2 T' q] at y1'; exact y1'
end
end Ap
end
section
set_option Elab.async false
set_option genSizeOf false
set_option linter.unusedVariables false
set_option linter.unusedSimpArgs false
namespace Ap
open PySem PySem.Calls PyProof.Rows
/-- a step of statements: the frame's own namespace and cells (X) may change too -/
structure SStp (X fs : List Addr) (O O' : Nat → Prop) (s s' : Shared) : Prop where
  keep : ∀ b o, s.heap.get? b = some o → ¬ O b → b ∉ fs → s'.heap.get? b = some o
  frm : ∀ b o, s.heap.get? b = some o → b ∈ fs → b ∉ X → ∃ sl, s'.heap.get? b = some { o with slots := sl }
  liv : ∀ b o, s.heap.get? b = some o → b ∈ fs → ∃ o', s'.heap.get? b = some o'
  grow : ∀ b, O b → O' b
  fresh : ∀ b, O' b → O b ∨ s.heap.get? b = Option.none
  gens : s'.gens = s.gens
  drawn : s'.drawn = s.drawn
  os : s'.os = s.os
theorem Stp.toS {X fs : List Addr} {O O' : Nat → Prop} {s s' : Shared} (x : Stp fs O O' s s') : SStp X fs O O' s s' :=
  ⟨x.keep, fun b o e m _ => x.frm b o e m, fun b o e m => (x.frm b o e m).elim fun _ z => ⟨_, z⟩, x.grow, x.fresh, x.gens, x.drawn, x.os⟩
theorem SStp.refl (X fs : List Addr) (O : Nat → Prop) (s : Shared) : SStp X fs O O s s := (Stp.refl fs O s).toS
theorem SStp.trans {X fs : List Addr} {O₁ O₂ O₃ : Nat → Prop} {s₁ s₂ s₃ : Shared} (x : SStp X fs O₁ O₂ s₁ s₂) (y : SStp X fs O₂ O₃ s₂ s₃) : SStp X fs O₁ O₃ s₁ s₃ where
  keep := fun b o e n m => y.keep b o (x.keep b o e n m) (fun q => (x.fresh b q).elim n fun z => by rw [e] at z; cases z) m
  frm := fun b o e m n => by
    obtain ⟨sl, e1⟩ := x.frm b o e m n
    obtain ⟨sl', e2⟩ := y.frm b _ e1 m n
    exact ⟨sl', e2⟩
  liv := fun b o e m => by
    obtain ⟨o', e1⟩ := x.liv b o e m
    exact y.liv b _ e1 m
  grow := fun b z => y.grow b (x.grow b z)
  fresh := fun b z => by
    by_cases q : O₁ b
    · exact .inl q
    · refine .inr ?_
      rcases y.fresh b z with z | z
      · exact (x.fresh b z).elim (fun w => absurd w q) id
      · cases e : s₁.heap.get? b with
        | none => rfl
        | some o =>
          by_cases m : b ∈ fs
          · obtain ⟨sl, e1⟩ := x.liv b o e m
            rw [e1] at z; cases z
          · rw [x.keep b o e q m] at z; cases z
  gens := y.gens.trans x.gens
  drawn := y.drawn.trans x.drawn
  os := y.os.trans x.os
theorem SStp.kp {X fs zs : List Addr} {O O' : Nat → Prop} {s s' : Shared} (x : SStp X fs O O' s s') (hs : ∀ b ∈ fs, b ∈ zs) : Kp (fun b => O b ∨ b ∈ zs) s.heap s'.heap := fun b o e n => x.keep b o e (fun q => n (.inl q)) fun q => n (.inr (hs b q))
theorem SStp.zg {X fs zs : List Addr} {O O' : Nat → Prop} {s s' : Shared} (x : SStp X fs O O' s s') : Zg (fun b => O b ∨ b ∈ zs) (fun b => O' b ∨ b ∈ zs) s.heap := fun b q => by
  rcases q with q | q
  · exact (x.fresh b q).imp .inl id
  · exact .inl (.inr q)
theorem SStp.vr {C : Cx} {X : List Addr} {envs : Vo} {σ σ' : St} {ow ow' : Nat → Option Nat} {s s' : Shared} (x : SStp X envs.fs (Own σ ow) (Own σ' ow') s s') {v : AV} {u : Value} (r : VR C (Zs σ ow (zss envs)) s.heap v u) : VR C (Zs σ' ow' (zss envs)) s'.heap v u := r.kp (x.kp envs.sub) x.zg
theorem SStp.vrs {C : Cx} {X : List Addr} {envs : Vo} {σ σ' : St} {ow ow' : Nat → Option Nat} {s s' : Shared} (x : SStp X envs.fs (Own σ ow) (Own σ' ow') s s') {v : List AV} {u : List Value} (r : VRs C (Zs σ ow (zss envs)) s.heap v u) : VRs C (Zs σ' ow' (zss envs)) s'.heap v u := r.kp (x.kp envs.sub) x.zg
theorem SStp.back {X fs : List Addr} {C : Cx} {σ σ' : St} {ow ow' : Nat → Option Nat} {s s' : Shared} (x : SStp X fs (Own σ ow) (Own σ' ow') s s') {envs : Vo} (g' : Good C envs σ' ow' s') (b : Addr) (n : s'.heap.get? b = Option.none) : s.heap.get? b = Option.none := by
  cases e : s.heap.get? b with
  | none => rfl
  | some o =>
    exfalso
    by_cases q : Own σ ow b
    · obtain ⟨ob, z⟩ := g'.live (x.grow b q)
      rw [n] at z; cases z
    · by_cases m : b ∈ fs
      · obtain ⟨o', z⟩ := x.liv b o e m
        rw [n] at z; cases z
      · rw [x.keep b o e q m] at n; cases n
theorem HOk.sstp {A : Around} {q : Bool} {X : List Addr} {envs : Vo} {σ σ' : St} {ow ow' : Nat → Option Nat} {s s' : Shared} (x : SStp X envs.fs (Own σ ow) (Own σ' ow') s s') (h : HOk A q (Zs σ ow (zss envs)) s.heap) : HOk A q (Zs σ' ow' (zss envs)) s'.heap := by
  rcases h with h | ⟨hq, e, o, vs, h1, h2, h3, h4, h5⟩
  · exact .inl h
  · exact .inr ⟨hq, e, o, vs, h1, x.kp envs.sub _ _ h2 h5, h3, h4, x.zg.not h2 h5⟩
/-- the frame of a def: its names, its namespace, its cells -/
structure FEnv (env : Env) (nms : List Str) (envs : Vo) (outer : List Env) : Prop where
  l : envs.l = env :: outer
  kind : env.scope.kind = .function
  frame : env.frame = some env.locals
  inF : env.locals ∈ envs.fs
  cel : ∀ x c, env.cells.lookup x = some c → c ∈ envs.fs ∧ c ≠ env.locals
  apart : ∀ x y c, env.cells.lookup x = some c → env.cells.lookup y = some c → x = y
  nodup : nms.Nodup
  kinds : ∀ x ∈ nms, env.kindOf x = some .local ∨ env.kindOf x = some .cell ∧ ∃ c, env.cells.lookup x = some c
abbrev ownX (env : Env) : List Addr := env.locals :: env.cells.map (·.2)
structure SOk (C : Cx) (A : Around) (q : Bool) (env : Env) (envs : Vo) (nms : List Str) (ρ : Loc) (σ : St) (ow : Nat → Option Nat) (s : Shared) : Prop where
  ok : Ok C A q env envs nms ρ σ ow s
  ns : ∃ m, s.heap.Ns env.locals m
  cells : ∀ x c, env.cells.lookup x = some c → ∃ v, s.heap.IsCell c v
inductive RF (C : Cx) (Z : Nat → Prop) (h : Heap) : Fl → Flow → Prop
  | next : RF C Z h .next .next
  | ret {v : AV} {u : Value} (r : VR C Z h v u) : RF C Z h (.ret v) (.ret u)
def KS (C : Cx) (A : Around) (q : Bool) (env : Env) (envs : Vo) (nms : List Str) (σ : St) (ow : Nat → Option Nat) (s : Shared) (Qa : QS) (Q : Flow → Shared → Prop) : Prop :=
  ∀ fl af ρ' σ' ow' s', Qa af ρ' σ' → SStp (ownX env) envs.fs (Own σ ow) (Own σ' ow') s s' → SOk C A q env envs nms ρ' σ' ow' s' → RF C (Zs σ' ow' (zss envs)) s'.heap af fl → Q fl s'
def KXS (C : Cx) (A : Around) (q : Bool) (env : Env) (envs : Vo) (nms : List Str) (σ : St) (ow : Nat → Option Nat) (s : Shared) (Ea : ES) (E : Value → Shared → Prop) : Prop :=
  ∀ e c ρ' σ' ow' s', Ea c ρ' σ' → SStp (ownX env) envs.fs (Own σ ow) (Own σ' ow') s s' → SOk C A q env envs nms ρ' σ' ow' s' → ThrS C env.locals (Zs σ' ow' (zss envs)) s.heap e c s'.heap → E (.ref e) s'
def SndS (C : Cx) (A : Around) (q : Bool) (env : Env) (envs : Vo) (nms : List Str) (t : Sem Flow) (W : Loc → St → QS → ES → Prop) : Prop :=
  ∀ ρ σ ow s Qa Ea Q E, W ρ σ Qa Ea → SOk C A q env envs nms ρ σ ow s → KS C A q env envs nms σ ow s Qa Q → KXS C A q env envs nms σ ow s Ea E → wpAny (model C.prog C.w) A t Q E s
section
variable {C : Cx} {A : Around} {q : Bool} {env : Env} {envs : Vo} {nms : List Str} {ρ : Loc} {σ σ' : St} {ow ow' : Nat → Option Nat} {s s' : Shared} {outer : List Env}
theorem KS.stp {Qa : QS} {Q : Flow → Shared → Prop} (x : SStp (ownX env) envs.fs (Own σ ow) (Own σ' ow') s s') (k : KS C A q env envs nms σ ow s Qa Q) : KS C A q env envs nms σ' ow' s' Qa Q :=
  fun fl af ρ' σ'' ow'' s'' a y g r => k fl af ρ' σ'' ow'' s'' a (x.trans y) g r
theorem KXS.stp {Ea : ES} {E : Value → Shared → Prop} (x : SStp (ownX env) envs.fs (Own σ ow) (Own σ' ow') s s') (g : Good C envs σ' ow' s') (k : KXS C A q env envs nms σ ow s Ea E) : KXS C A q env envs nms σ' ow' s' Ea E :=
  fun e c ρ' σ'' ow'' s'' a y g' t => k e c ρ' σ'' ow'' s'' a (x.trans y) g' (ThrA.up (x.back g) t)
/-- an expression's step within a statement -/
theorem SOk.stp (F : FEnv env nms envs outer) (k : SOk C A q env envs nms ρ σ ow s) (x : Stp (frs envs) (Own σ ow) (Own σ' ow') s s') (g : Good C envs σ' ow' s') : SOk C A q env envs nms ρ σ' ow' s' where
  ok := k.ok.stp x g
  ns := k.ns.imp fun m h => Ns.slots (x.up (fun q => k.ok.good.off _ (envs.sub _ F.inF) q)) h
  cells := fun y c hc => by
    obtain ⟨v, o, e, d⟩ := k.cells y c hc
    obtain ⟨sl, e'⟩ := x.up (fun q => k.ok.good.off _ (envs.sub _ (F.cel y c hc).1) q) o e
    exact ⟨v, _, e', d⟩
/-- an expression's exceptions within a statement -/
theorem KXS.toE (F : FEnv env nms envs outer) (k : SOk C A q env envs nms ρ σ ow s) {Ea : ES} {E : Value → Shared → Prop} (kx : KXS C A q env envs nms σ ow s Ea E) : KX C envs σ ow s (fun c σ' => Ea c ρ σ') E :=
  fun e c σ' ow' s' a x g t => kx e c ρ σ' ow' s' a x.toS (k.stp F x g) (t.mono (fun _ z => .inl z) fun _ z => z)
/-- a namespace or a cell of the frame is changed -/
theorem Good.touch {h' : Heap} {d : Addr} (G : Good C envs σ ow s) (hd : d ∈ envs.fs) (k : ∀ b ob, b ≠ d → s.heap.get? b = some ob → h'.get? b = some ob) (kl : ∃ o, h'.get? d = some o ∧ ∀ vs, o.data ≠ .fields vs) (t : Nat) : Good C envs σ ow { s with heap := h', toks := t } := by
  have hO : ¬ Own σ ow d := G.off d (envs.sub _ hd)
  have hK : Kp (Zs σ ow (zss envs)) s.heap h' := fun b ob e n => k b ob (fun q => n (.inr (envs.sub _ (q ▸ hd)))) e
  have hE : ∀ b, (s.heap.get? b).isSome = true → b ≠ d → h'.get? b = s.heap.get? b := fun b hl nd => by
    obtain ⟨ob, e⟩ := Option.isSome_iff_exists.mp hl
    rw [e]; exact k b ob nd e
  refine ⟨fun b ob e => ?_, ?_, G.apart, fun b m => ?_, G.sub, fun b o' e => ?_, fun b c e => ?_, G.fresh, G.off, G.gens⟩
  · exact k b ob (fun q => by subst q; rw [(G.mem _ (envs.sub _ hd)).1] at e; cases e) (G.stays b ob e)
  · have : ∀ l : List Env, s.heap.FunFrames C.base l → h'.FunFrames C.base l := by
      intro l
      induction l with
      | nil => intro _; trivial
      | cons env r ih =>
        rintro ⟨hk, ⟨L, ob, hf, hb, ho, hdt⟩, hr⟩
        by_cases q : L = d
        · subst q
          obtain ⟨o', e1, e2⟩ := kl
          exact ⟨hk, ⟨_, o', hf, hb, e1, e2⟩, ih hr⟩
        · exact ⟨hk, ⟨L, ob, hf, hb, k L ob q ho, hdt⟩, ih hr⟩
    exact this envs.l G.frames
  · obtain ⟨x, ob, e⟩ := G.mem b m
    by_cases q : b = d
    · subst q
      obtain ⟨o', e1, _⟩ := kl
      exact ⟨x, o', e1⟩
    · exact ⟨x, ob, k b ob q e⟩
  · have nb : b ≠ d := fun z => hO (z ▸ .inl (by rw [e]; rfl))
    exact (G.store b o' e).kp hK (Zg.refl _ _) (hE b (G.store b o' e).live nb) fun dx hdx => ⟨hE dx (G.parts _ _ hdx).2.2 (fun z => hO (z ▸ .inr (by rw [hdx]; rfl))), hdx⟩
  · obtain ⟨x1, x2, x3⟩ := G.parts b c e
    refine ⟨x1, x2, ?_⟩
    show (h'.get? b).isSome = true
    rw [hE b x3 (fun z => hO (z ▸ .inr (by rw [e]; rfl)))]; exact x3
theorem SStp.touch {h' : Heap} {d : Addr} {t : Nat} {X fs : List Addr} (O : Nat → Prop) (hx : d ∈ X) (hd : d ∈ fs) (k : ∀ b ob, b ≠ d → s.heap.get? b = some ob → h'.get? b = some ob) (kl : ∃ o, h'.get? d = some o) : SStp X fs O O s { s with heap := h', toks := t } where
  keep := fun b o e _ m => k b o (fun q => m (q ▸ hd)) e
  frm := fun b o e _ n => ⟨o.slots, k b o (fun q => n (q ▸ hx)) e⟩
  liv := fun b o e _ => by
    by_cases q : b = d
    · subst q; exact kl
    · exact ⟨o, k b o q e⟩
  grow := fun _ x => x
  fresh := fun _ x => .inl x
  gens := rfl
  drawn := rfl
  os := rfl
theorem getL_set {ρ : Loc} {i j : Nat} {v w : AV} (h : getL (setL ρ i v) j = some w) : j = i ∧ w = v ∨ j ≠ i ∧ getL ρ j = some w := by
  unfold getL setL at *
  rw [List.getD_eq_getElem?_getD] at h ⊢
  by_cases q : j = i
  · subst q
    left
    rw [List.getElem?_set] at h
    simp only [if_true] at h
    split at h
    · simp at h; exact ⟨rfl, h.symm⟩
    · simp at h
  · right
    rw [List.getElem?_set_ne (Ne.symm q)] at h
    exact ⟨q, h⟩
/-- a name is bound -/
theorem store_snd (F : FEnv env nms envs outer) {i : Nat} {x : Str} {v : AV} {u : Value} {Q : Unit → Shared → Prop} {E : Value → Shared → Prop} (hx : nms[i]? = some x) (k : SOk C A q env envs nms ρ σ ow s) (r : VR C (Zs σ ow (zss envs)) s.heap v u)
    (K : ∀ s', SStp (ownX env) envs.fs (Own σ ow) (Own σ ow) s s' → SOk C A q env envs nms (setL ρ i v) σ ow s' → Q () s') : wpAny (model C.prog C.w) A (storeName env x u) Q E s := by
  have hmem : x ∈ nms := List.mem_of_getElem? hx
  have other : ∀ j y, nms[j]? = some y → j ≠ i → y ≠ x := fun j y hy ne e => by
    subst e
    have h1 := List.getElem?_eq_some_iff.mp hy
    have h2 := List.getElem?_eq_some_iff.mp hx
    exact ne ((List.getElem_inj F.nodup).mp (h1.2.trans h2.2.symm))
  rcases F.kinds x hmem with hl | ⟨hl, c, hc⟩
  · obtain ⟨m, hn⟩ := k.ns
    refine wpAny_storeName_local hl hn (fun h' hn' hs => ?_) (by rw [F.kind]; rfl)
    have hk : ∀ b ob, b ≠ env.locals → s.heap.get? b = some ob → h'.get? b = some ob := fun b ob nb e => (hs.2 b nb).trans e
    have hlv : ∃ o, h'.get? env.locals = some o ∧ ∀ vs, o.data ≠ .fields vs := by
      obtain ⟨o, es, ep, ho, hd, _⟩ := hn'
      exact ⟨o, ho, fun vs q => by rw [hd] at q; cases q⟩
    have st : SStp (ownX env) envs.fs (Own σ ow) (Own σ ow) s { s with heap := h', toks := s.toks + 1 } := SStp.touch _ List.mem_cons_self F.inF hk (let ⟨o, e, _⟩ := hlv; ⟨o, e⟩)
    refine K _ st ⟨⟨k.ok.good.touch F.inF hk hlv _, ⟨k.ok.loc.kind, k.ok.loc.glob, k.ok.loc.blt, k.ok.loc.offL, fun j w e => ?_⟩, k.ok.hnd.sstp st, let ⟨o, e, _⟩ := hlv; ⟨o, e⟩⟩, ⟨_, hn'⟩, fun y c hc => ?_⟩
    · rcases getL_set e with ⟨rfl, rfl⟩ | ⟨nj, e⟩
      · exact ⟨x, u, hx, st.vr r, .inl ⟨hl, _, hn', by simp⟩⟩
      · obtain ⟨y, val, ey, ry, ly⟩ := k.ok.loc.val j w e
        refine ⟨y, val, ey, st.vr ry, ?_⟩
        rcases ly with ⟨kd, m', hns, hm⟩ | ⟨c, kd, hc, ⟨o, eo, d⟩, hz⟩
        · refine .inl ⟨kd, _, hn', ?_⟩
          rw [if_neg (other j y ey nj)]
          obtain ⟨o1, es1, ep1, a1, a2, _, a3⟩ := hn
          obtain ⟨o2, es2, ep2, b1, b2, _, b3⟩ := hns
          rw [a1] at b1
          cases b1
          rw [a2] at b2
          cases b2
          rw [← a3, b3]; exact hm
        · exact .inr ⟨c, kd, hc, ⟨o, hk _ _ (F.cel y c hc).2 eo, d⟩, hz⟩
    · obtain ⟨v', o, eo, d⟩ := k.cells y c hc
      exact ⟨v', o, hk _ _ (F.cel y c hc).2 eo, d⟩
  · obtain ⟨v₀, hv⟩ := k.cells x c hc
    refine wpAny_storeName_cell F.kind hl hc hv fun h' hc' hs => ?_
    have hk : ∀ b ob, b ≠ c → s.heap.get? b = some ob → h'.get? b = some ob := fun b ob nb e => (hs.2 b nb).trans e
    have hlv : ∃ o, h'.get? c = some o ∧ ∀ vs, o.data ≠ .fields vs := by
      obtain ⟨o, e, d⟩ := hc'
      exact ⟨o, e, fun vs q => by rw [d] at q; cases q⟩
    have hcx : c ∈ ownX env := List.mem_cons_of_mem _ (List.mem_map.mpr ⟨(x, c), mem_of_lookup hc, rfl⟩)
    obtain ⟨hh, gg, dd, tt, oo⟩ := s
    have st : SStp (ownX env) envs.fs (Own σ ow) (Own σ ow) ⟨hh, gg, dd, tt, oo⟩ { heap := h', gens := gg, drawn := dd, toks := tt, os := oo } := SStp.touch _ hcx (F.cel x c hc).1 hk (let ⟨o, e, _⟩ := hlv; ⟨o, e⟩)
    have nsk : ∀ m, hh.Ns env.locals m → h'.Ns env.locals m := fun m hn => hn.at' fun o e => hk _ _ (Ne.symm (F.cel x c hc).2) e
    have lvL : ∃ o, h'.get? env.locals = some o := by
      obtain ⟨o, e⟩ := k.ok.live
      exact ⟨o, hk _ _ (Ne.symm (F.cel x c hc).2) e⟩
    refine K _ st ⟨⟨k.ok.good.touch (F.cel x c hc).1 hk hlv _, ⟨k.ok.loc.kind, k.ok.loc.glob, k.ok.loc.blt, k.ok.loc.offL, fun j w e => ?_⟩, k.ok.hnd.sstp st, lvL⟩, (let ⟨m, hn⟩ := k.ns; ⟨m, nsk m hn⟩), fun y c' hc'' => ?_⟩
    · rcases getL_set e with ⟨rfl, rfl⟩ | ⟨nj, e⟩
      · exact ⟨x, u, hx, st.vr r, .inr ⟨c, .inl hl, hc, hc', k.ok.good.off _ (envs.sub _ (F.cel x c hc).1)⟩⟩
      · obtain ⟨y, val, ey, ry, ly⟩ := k.ok.loc.val j w e
        refine ⟨y, val, ey, st.vr ry, ?_⟩
        rcases ly with ⟨kd, m', hns, hm⟩ | ⟨c', kd, hc'', ⟨o, eo, d⟩, hz⟩
        · exact .inl ⟨kd, m', nsk m' hns, hm⟩
        · exact .inr ⟨c', kd, hc'', ⟨o, hk _ _ (fun q => other j y ey nj (F.apart y x c (q ▸ hc'') hc)) eo, d⟩, hz⟩
    · by_cases q : c' = c
      · subst q; exact ⟨_, hc'⟩
      · obtain ⟨v', o, eo, d⟩ := k.cells y c' hc''
        exact ⟨v', o, hk _ _ q eo, d⟩
end
end Ap
end
section
set_option Elab.async false
set_option linter.unusedVariables false
set_option linter.unusedSimpArgs false
namespace Ap
open PySem PySem.Calls PyProof.Rows
section
variable {C : Cx} {A : Around} {q : Bool} {env : Env} {envs : Vo} {nms : List Str} {ρ : Loc} {σ σ' : St} {ow ow' : Nat → Option Nat} {s s' : Shared} {outer : List Env}
mutual
theorem VR.xc {Z : Nat → Prop} {h h' : Heap} {fs : List Addr} {e : Addr} {t : Option (Addr × Value)} (x : Xc fs e t h h') (hz : ∀ b ∈ fs, Z b) {a : AV} {v : Value} (r : VR C Z h a v) : VR C Z h' a v := by
  cases r with
  | none => exact .none
  | bool b => exact .bool b
  | int i t => exact .int i t
  | str s t ok => exact .str s t ok
  | tup at_ off r =>
    obtain ⟨z, n, e⟩ := at_
    exact .tup ⟨z, n, x.keep _ _ e (fun m => off (hz _ m)) (.inr fun vs q => by cases q)⟩ off (VRs.xc x hz r)
  | ilist at_ off r =>
    obtain ⟨z, n, e⟩ := at_
    exact .ilist ⟨z, n, x.keep _ _ e (fun m => off (hz _ m)) (.inr fun vs q => by cases q)⟩ off (VRs.xc x hz r)
  | obj a => exact .obj a
  | exn at_ cls dt dn cx off =>
    obtain ⟨o', vs', y1, y2, y3, y4, _⟩ := x.fld _ _ _ at_ dt
    exact .exn y1 (y2.trans cls) y4 (y3.trans dn) cx off
theorem VRs.xc {Z : Nat → Prop} {h h' : Heap} {fs : List Addr} {e : Addr} {t : Option (Addr × Value)} (x : Xc fs e t h h') (hz : ∀ b ∈ fs, Z b) {a : List AV} {v : List Value} (r : VRs C Z h a v) : VRs C Z h' a v := by
  cases r with
  | nil => exact .nil
  | cons hd tl => exact .cons (VR.xc x hz hd) (VRs.xc x hz tl)
end
theorem ORep.xc {Z : Nat → Prop} {h h' : Heap} {fs : List Addr} {e : Addr} {t : Option (Addr × Value)} (x : Xc fs e t h h') (hz : ∀ b ∈ fs, Z b) {a : Addr} (ka : ∀ o, h.get? a = some o → h'.get? a = some o)
    (kd : ∀ dx, ow dx = some a → ∀ o, h.get? dx = some o → h'.get? dx = some o) {o : AObj} (r : ORep C Z ow h a o) : ORep C Z ow h' a o := by
  cases o with
  | list xs =>
    obtain ⟨vs, ⟨z, n, e⟩, r⟩ := r
    exact ⟨vs, ⟨z, n, ka _ e⟩, r.xc x hz⟩
  | dictI es =>
    obtain ⟨kvs, ⟨o, e1, ep, e, r⟩, z, y, w⟩ := r
    exact ⟨kvs, ⟨o, e1, ep, ka _ e, r⟩, z, y, w.xc x hz⟩
  | dictS es =>
    obtain ⟨kvs, ⟨o, e1, ep, e, r⟩, z, y, w⟩ := r
    exact ⟨kvs, ⟨o, e1, ep, ka _ e, r⟩, z, y, w.xc x hz⟩
  | inst c fs =>
    obtain ⟨o, dx, mA, e1, e2, e3, e4, e5, e6, e7, e8, r⟩ := r
    refine ⟨o, dx, mA, ka _ e1, e2, e3, e4, e5, e6, e7.at (fun o e => kd dx e6 o e), e8, fun f v y => ?_, r.2⟩
    obtain ⟨u, y1, y2⟩ := r.1 f v y
    exact ⟨u, y1, y2.xc x hz⟩
structure XOk (C : Cx) (envs : Vo) (σ : St) (ow : Nat → Option Nat) (fs : List Addr) (e : Addr) (t : Option (Addr × Value)) : Prop where
  sub : ∀ b ∈ fs, b ∈ envs.fs
  ne : ¬ Zs σ ow (zss envs) e ∧ C.base.get? e = Option.none
  nT : ∀ T fl, t = some (T, fl) → ¬ Zs σ ow (zss envs) T ∧ C.base.get? T = Option.none
theorem XOk.out {fs : List Addr} {e : Addr} {t : Option (Addr × Value)} (k : XOk C envs σ ow fs e t) {b : Addr} (hb : Zs σ ow (zss envs) b ∨ ∃ o, C.base.get? b = some o) : b ≠ e ∧ ∀ fl, t ≠ some (b, fl) := by
  refine ⟨fun q => ?_, fun fl q => ?_⟩
  · subst q
    rcases hb with hb | ⟨o, hb⟩
    · exact k.ne.1 hb
    · rw [k.ne.2] at hb; cases hb
  · rcases hb with hb | ⟨o, hb⟩
    · exact (k.nT b fl q).1 hb
    · rw [(k.nT b fl q).2] at hb; cases hb
theorem Good.xc {fs : List Addr} {e : Addr} {t : Option (Addr × Value)} {h' : Heap} (G : Good C envs σ ow s) (x : Xc fs e t s.heap h') (k : XOk C envs σ ow fs e t) : Good C envs σ ow { s with heap := h' } := by
  have hz : ∀ b ∈ fs, Zs σ ow (zss envs) b := fun b m => .inr (envs.sub _ (k.sub b m))
  have own : ∀ b, Own σ ow b → ∀ o, s.heap.get? b = some o → h'.get? b = some o := fun b ob o eb => x.keep b o eb (fun m => G.off b (envs.sub _ (k.sub b m)) ob) (.inl (k.out (.inl (.inl ob))))
  refine ⟨fun b o eb => ?_, G.frames.of_keeps fun b o eb nd => ?_, G.apart, fun b m => ?_, G.sub, fun b o' eb => ?_, fun b c eb => ?_, G.fresh, G.off, G.gens⟩
  · exact x.keep b o (G.stays b o eb) (fun m => by rw [(G.mem b (envs.sub _ (k.sub b m))).1] at eb; cases eb) (.inl (k.out (.inr ⟨o, eb⟩)))
  · obtain ⟨sl, z⟩ := x.frm b o eb nd
    exact ⟨_, z, rfl⟩
  · obtain ⟨y, o, eb⟩ := G.mem b m
    exact ⟨y, x.live eb⟩
  · exact (G.store b o' eb).xc x hz (own b (.inl (by rw [eb]; rfl))) fun dx hd => own dx (.inr (by rw [hd]; rfl))
  · obtain ⟨x1, x2, x3⟩ := G.parts b c eb
    obtain ⟨od, ed⟩ := Option.isSome_iff_exists.mp x3
    refine ⟨x1, x2, ?_⟩
    show (h'.get? b).isSome = true
    rw [own b (.inr (by rw [eb]; rfl)) od ed]; rfl
theorem SOk.xc (F : FEnv env nms envs outer) {fs : List Addr} {e : Addr} {t : Option (Addr × Value)} {h' : Heap} (K : SOk C A q env envs nms ρ σ ow s) (x : Xc fs e t s.heap h') (k : XOk C envs σ ow fs e t) : SOk C A q env envs nms ρ σ ow { s with heap := h' } := by
  have hz : ∀ b ∈ fs, Zs σ ow (zss envs) b := fun b m => .inr (envs.sub _ (k.sub b m))
  have nsk : ∀ m, s.heap.Ns env.locals m → h'.Ns env.locals m := fun m hn => by
    obtain ⟨o, es, ep, ho, hd, r⟩ := hn
    obtain ⟨sl, z⟩ := x.frm _ o ho fun vs q => by rw [hd] at q; cases q
    exact ⟨_, es, ep, z, hd, r⟩
  have ck : ∀ c v, s.heap.IsCell c v → h'.IsCell c v := fun c v hc => by
    obtain ⟨o, ho, hd⟩ := hc
    obtain ⟨sl, z⟩ := x.frm _ o ho fun vs q => by rw [hd] at q; cases q
    exact ⟨_, z, hd⟩
  refine ⟨⟨K.ok.good.xc x k, ⟨K.ok.loc.kind, K.ok.loc.glob, K.ok.loc.blt, K.ok.loc.offL, fun j w ej => ?_⟩, ?_, ?_⟩, ?_, fun y c hc => ?_⟩
  · obtain ⟨y, val, ey, ry, ly⟩ := K.ok.loc.val j w ej
    refine ⟨y, val, ey, VR.xc x hz ry, ?_⟩
    rcases ly with ⟨kd, m', hns, hm⟩ | ⟨c, kd, hc, hv, hz'⟩
    · exact .inl ⟨kd, m', nsk m' hns, hm⟩
    · exact .inr ⟨c, kd, hc, ck _ _ hv, hz'⟩
  · rcases K.ok.hnd with h | ⟨hq, e', o, vs, h1, h2, h3, h4, h5⟩
    · exact .inl h
    · obtain ⟨o', vs', y1, y2, y3, y4, y5⟩ := x.fld _ _ _ h2 h3
      exact .inr ⟨hq, e', o', vs', h1, y1, y4, y5.trans h4, h5⟩
  · obtain ⟨o, eo⟩ := K.ok.live
    exact x.live eo
  · obtain ⟨m, hn⟩ := K.ns
    exact ⟨m, nsk m hn⟩
  · obtain ⟨v, hv⟩ := K.cells y c hc
    exact ⟨v, ck c v hv⟩
theorem SStp.xc {X fs : List Addr} {e : Addr} {t : Option (Addr × Value)} {h' : Heap} (st : SStp X envs.fs (Own σ ow) (Own σ' ow') s s') (G : Good C envs σ' ow' s') (x : Xc fs e t s'.heap h') (k : XOk C envs σ' ow' fs e t)
    (n0 : s.heap.get? e = Option.none) (nT : ∀ T fl, t = some (T, fl) → s.heap.get? T = Option.none) (hf : ∀ b ∈ fs, ∀ o, s'.heap.get? b = some o → ∀ vs, o.data ≠ .fields vs) : SStp X envs.fs (Own σ ow) (Own σ' ow') s { s' with heap := h' } := by
  have out : ∀ b o, s.heap.get? b = some o → b ≠ e ∧ ∀ fl, t ≠ some (b, fl) := fun b o eb => ⟨fun q => (by subst q; rw [n0] at eb; cases eb), fun fl q => (by rw [nT b fl q] at eb; cases eb)⟩
  refine ⟨fun b o eb nO nf => ?_, fun b o eb m nX => ?_, fun b o eb m => ?_, st.grow, st.fresh, st.gens, st.drawn, st.os⟩
  · exact x.keep b o (st.keep b o eb nO nf) (fun m => nf (k.sub b m)) (.inl (out b o eb))
  · obtain ⟨sl, z⟩ := st.frm b o eb m nX
    by_cases q : ∃ vs, o.data = .fields vs
    · by_cases mf : b ∈ fs
      · obtain ⟨vs, d⟩ := q
        exact absurd d (hf b mf _ z vs)
      · exact ⟨sl, x.keep b _ z mf (.inl (out b o eb))⟩
    · obtain ⟨sl', z'⟩ := x.frm b _ z fun vs d => q ⟨vs, d⟩
      exact ⟨sl', z'⟩
  · obtain ⟨o', z⟩ := st.liv b o eb m
    exact x.live z
theorem Good.frm (G : Good C envs σ ow s) {l : List Env} (e : envs.l = l) : ∀ b ∈ l.filterMap (·.frame), ∀ o, s.heap.get? b = some o → ∀ vs, o.data ≠ .fields vs := fun b m o eb vs => by
  subst e
  obtain ⟨_, o', e', d⟩ := G.frames.mem m
  rw [eb] at e'
  cases e'
  exact d vs
theorem Good.subF (G : Good C envs σ ow s) {l : List Env} (e : envs.l = l) : ∀ b ∈ l.filterMap (·.frame), b ∈ envs.fs := fun b m => by
  subst e
  obtain ⟨env, he, hf⟩ := List.mem_filterMap.mp m
  exact G.sub env he b hf
/-- an exception as it passes: what a frame's note makes of it -/
theorem note_snd (F : FEnv env nms envs outer) (hA : A.frames = some envs.l) {s₀ : Shared} {σ₀ : St} {ow₀ : Nat → Option Nat} {e : Addr} {c : Nat} {Q : Unit → Shared → Prop} {E : Value → Shared → Prop}
    (hb : C.base.StaysIn s₀.heap) (st : SStp (ownX env) envs.fs (Own σ₀ ow₀) (Own σ ow) s₀ s) (K : SOk C A q env envs nms ρ σ ow s) (t : ThrS C env.locals (Zs σ ow (zss envs)) s₀.heap e c s.heap)
    (k : ∀ s' T, SStp (ownX env) envs.fs (Own σ₀ ow₀) (Own σ ow) s₀ s' → SOk C A q env envs nms ρ σ ow s' → ExO s'.heap e (.ref (C.clsA c)) (some (T, rawInt env.locals)) → s₀.heap.get? T = Option.none → ¬ Zs σ ow (zss envs) T → Q () s') :
    wpAny (model C.prog C.w) A (noteFrame (.ref e) env) Q E s := by
  obtain ⟨⟨n1, n2, n3⟩, tt, x1, x2⟩ := t
  have bn : ∀ b, s₀.heap.get? b = Option.none → C.base.get? b = Option.none := fun b z => by
    cases y : C.base.get? b with
    | none => rfl
    | some o => rw [hb b o y] at z; cases z
  have xk : XOk C envs σ ow ((env :: outer).filterMap (·.frame)) e tt := ⟨K.ok.good.subF F.l, ⟨n2, bn _ n1⟩, fun T fl z => ⟨(x2 T fl z).2.2, bn _ (x2 T fl z).2.1⟩⟩
  refine note_low (hA.trans (by rw [F.l])) (by have := K.ok.good.frames; rw [F.l] at this; exact this) F.frame x1 fun h' T' y1 y2 y3 => ?_
  have st' := st.xc K.ok.good y1 xk n1 (fun T fl z => (x2 T fl z).2.1) (K.ok.good.frm F.l)
  refine k _ T' st' (K.xc F y1 xk) y2 ?_ ?_
  · rcases y3 with y3 | ⟨fl, y3⟩
    · exact st.back K.ok.good T' y3
    · exact (x2 T' fl y3).2.1
  · rcases y3 with y3 | ⟨fl, y3⟩
    · rintro (z | z)
      · obtain ⟨o, w⟩ := K.ok.good.live z
        rw [y3] at w; cases w
      · obtain ⟨_, o, w⟩ := K.ok.good.mem _ z
        rw [y3] at w; cases w
    · exact (x2 T' fl y3).2.2
theorem flight_snd (F : FEnv env nms envs outer) {s₀ : Shared} {σ₀ : St} {ow₀ : Nat → Option Nat} {e T : Addr} {c : Nat} {fl : Value} {f : Option Addr} {Q : Unit → Shared → Prop} {E : Value → Shared → Prop}
    (hb : C.base.StaysIn s₀.heap) (st : SStp (ownX env) envs.fs (Own σ₀ ow₀) (Own σ ow) s₀ s) (K : SOk C A q env envs nms ρ σ ow s) (n : s₀.heap.get? e = Option.none ∧ ¬ Zs σ ow (zss envs) e) (x : ExO s.heap e (.ref (C.clsA c)) (some (T, fl)))
    (nT : s₀.heap.get? T = Option.none) (nZ : ¬ Zs σ ow (zss envs) T)
    (k : ∀ s', SStp (ownX env) envs.fs (Own σ₀ ow₀) (Own σ ow) s₀ s' → SOk C A q env envs nms ρ σ ow s' → ExO s'.heap e (.ref (C.clsA c)) (some (T, f.elim .none fun f => rawInt f)) → Q () s') :
    wpAny (model C.prog C.w) A (setFlight (.ref e) f) Q E s := by
  have bn : ∀ b, s₀.heap.get? b = Option.none → C.base.get? b = Option.none := fun b z => by
    cases y : C.base.get? b with
    | none => rfl
    | some o => rw [hb b o y] at z; cases z
  have xk : XOk C envs σ ow [] e (some (T, fl)) := ⟨fun b m => absurd m (by simp), ⟨n.2, bn _ n.1⟩, fun T' fl' z => by cases z; exact ⟨nZ, bn _ nT⟩⟩
  refine flight_low x fun h' y1 y2 => ?_
  exact k _ (st.xc K.ok.good y1 xk n.1 (fun T' fl' z => by cases z; exact nT) fun b m => absurd m (by simp)) (K.xc F y1 xk) y2
/-- an exception that passes a loop of the frame -/
theorem noted_snd (F : FEnv env nms envs outer) (hA : A.frames = some envs.l) {s₀ : Shared} {σ₀ : St} {ow₀ : Nat → Option Nat} {e : Addr} {c : Nat} {Ea : ES} {E : Value → Shared → Prop}
    (hb : C.base.StaysIn s₀.heap) (st : SStp (ownX env) envs.fs (Own σ₀ ow₀) (Own σ ow) s₀ s) (K : SOk C A q env envs nms ρ σ ow s) (t : ThrS C env.locals (Zs σ ow (zss envs)) s₀.heap e c s.heap) (a : Ea c ρ σ)
    (kx : KXS C A q env envs nms σ₀ ow₀ s₀ Ea E) : notedBy (model C.prog C.w) A env (cameBackBy (model C.prog C.w) A env E) (.ref e) s := by
  have t0 := t.1
  refine note_snd F hA hb st K t fun s' T st' K' x nT nZ => ?_
  unfold cameBackBy
  obtain ⟨oe, vs, a0, x1, x2, x3, x4, x5, x6, x7, x8⟩ := id x
  refine wpAny_bind (wpAny_field x1 x4 x7 ?_)
  rw [if_neg (by simp)]
  refine flight_snd F hb st' K' ⟨t0.1, t0.2.1⟩ x nT nZ fun s'' st'' K'' x' => ?_
  rw [F.frame] at x'
  exact kx e c ρ σ ow s'' a st'' K'' ⟨t0, _, x', fun T' fl' z => by cases z; exact ⟨.inr rfl, nT, nZ⟩⟩
end
end Ap
end
section
set_option Elab.async false
set_option linter.unusedVariables false
set_option linter.unusedSimpArgs false
namespace Ap
open PySem PySem.Calls PyProof.Rows
/-! ### the end of a list's walk, where an exception may be handled -/
section
variable {prog : Program} {w : World} {A : Around} {E : Value → Shared → Prop} {s : Shared}
theorem entry_unchain : entryFor table "proto.unchain" = some Builtin.«proto.unchain» := entryFor_of_fast (by kernel_rfl)
def HLow (A : Around) (h : Heap) : Prop := A.handled = Option.none ∨ ∃ e o vs, A.handled = some (.ref e) ∧ h.get? e = some o ∧ o.data = .fields vs ∧ vs[2]? = some .none
theorem raiseNew_low {α : Type} {a : Addr} {o : Obj} {vs : Array Value} {Q : α → Shared → Prop} (hh : HLow A s.heap) (ho : s.heap.get? a = some o) (hd : o.data = .fields vs) (h2 : 2 < vs.size)
    (h : ∀ h' vs', h'.get? a = some { o with data := .fields vs' } → (∀ b, b ≠ a → h'.get? b = s.heap.get? b) → E (.ref a) { s with heap := h' }) : wpAny (model prog w) A (raiseNew (.ref a) : Sem α) Q E s := by
  unfold raiseNew
  refine wpAny_bind (wpAny_handled ?_)
  rcases hh with hh | ⟨e, oe, es, hh, he, hde, h0⟩
  · rw [hh]
    exact wpAny_bind (wpAny_pure (wpAny_throw (h s.heap vs (by rw [ho, ← hd]) fun _ _ => rfl)))
  · rw [hh]
    by_cases q : (Value.ref e != Value.ref a) = true
    · show wpAny _ _ (if (Value.ref e != Value.ref a) = true then _ else _) _ _ _
      rw [if_pos q]
      refine wpAny_bind ((wpAny_holding (wpAny_runValue (codeAny_builtin entry_unchain ?_))))
      unfold Builtin.«proto.unchain»
      refine wpAny_bind (wpAny_field he hde h0 ?_)
      rw [if_pos (show (Value.none == Value.none) = true from by decide)]
      refine wpAny_bind (wpAny_pure ?_)
      refine wpAny_pure ?_
      show wpAny _ _ (setField (.ref a) 2 (.ref e) >>= _) _ _ _
      refine wpAny_bind (wpAny_setField (x := .ref e) ho hd h2 ?_)
      obtain ⟨u1, u2⟩ := upd_fields 2 (.ref e) ho hd
      exact wpAny_throw (h _ _ u1 u2)
    · show wpAny _ _ (if (Value.ref e != Value.ref a) = true then _ else _) _ _ _
      rw [if_neg q]
      exact wpAny_throw (h s.heap vs (by rw [ho, ← hd]) fun _ _ => rfl)
theorem next_list_end' {it l : Addr} {i : Nat} {items : Array Value} {Q : Option Value → Shared → Prop} (hh : HLow A s.heap)
    (hit : s.heap.IsListIter it l i) (hl : s.heap.IsList l items) (hx : items[i]? = none) (hA : ∀ e, A.handled = some (.ref e) → e ≠ it)
    (hQ : ∀ h', Heap.ExtBut it s.heap h' → (∃ o, h'.get? it = some o) → Q none { s with heap := h' }) : wpAny (model prog w) A (pyNext (.ref it)) Q E s := by
  obtain ⟨o, ho, hc, hd⟩ := id hit
  obtain ⟨ol, hol, _, nl, hdl⟩ := hl
  unfold pyNext
  refine wpAny_bind (wpAny_attempt (wpAny_callSpecial?_slot (name := Str.ofString "__next__") hit.typeIs slot_listiter_next
    (wpAny_call_entry slot_listiter_next hit.typeIs entry_listiter_next ?_ (args_listiter_next _))))
  show wpAny _ _ (field (.ref it) 0 >>= _) _ _ s
  refine wpAny_bind (wpAny_field ho hd (x := .ref l) rfl ?_)
  show wpAny _ _ (if (Value.ref l == Value.none) = true then _ else _) _ _ s
  rw [if_neg (show ¬ ((Value.ref l == Value.none) = true) from Bool.false_ne_true)]
  show wpAny _ _ (field (.ref it) 1 >>= _) _ _ s
  refine wpAny_bind (wpAny_field ho hd (x := .int i 0) rfl ?_)
  show wpAny _ _ (seqItems? (.ref l) >>= _) _ _ s
  refine wpAny_bind (wpAny_seqItems hol hdl ?_)
  simp only [Int.toNat_natCast, hx]
  refine wpAny_bind (wpAny_rule (wpAny_bind (wpAny_setField ho hd (by simp) ?_)))
  show wpAny _ _ (newExc (.type "StopIteration") [] >>= _) _ _ _
  refine wpAny_bind ?_
  simp only [newExc, newTuple]
  refine wpAny_bind (wpAny_newObj_type ?_ (by size_fits))
  refine wpAny_bind (m := firstArgMember _ _) (wpAny_of_eq (a := Value.none) (by first | rfl | (simp only [firstArgMember]; rfl)) ?_)
  refine wpAny_newObj_type ?_ (by size_fits)
  refine raiseNew_low ?_ (Heap.get?_push_size _ rfl) rfl (by simp only [List.size_toArray, List.length_append, List.length_cons, Array.size_append]; omega) fun h' vs' y1 y2 => ?_
  · rcases hh with hh | ⟨e, oe, es, hh, he, hde, h0⟩
    · exact .inl hh
    · refine .inr ⟨e, oe, es, hh, ?_, hde, h0⟩
      exact Heap.get?_push_of_some _ (Heap.get?_push_of_some _ ((Heap.get?_update_other _ _ (Ne.symm (hA e hh))).trans he))
  · refine wpAny_bind (wpAny_isInstance (T := "StopIteration") (b := true) ⟨_, y1, rfl⟩ isSubtype_stop ?_)
    have hself := Heap.get?_update_self (Obj.mapFields (·.setIfInBounds 0 Value.none)) ho (Obj.isFreed_of_fields (Obj.data_mapFields hd _))
    have k0 := Heap.get?_push_of_some { cls := .type "tuple", data := .seq #[] } hself
    refine wpAny_pure (hQ _ (fun b ob nb eb => ?_) ⟨_, (y2 it (Nat.ne_of_lt (Heap.lt_size k0))).trans (Heap.get?_push_of_some _ k0)⟩)
    have k1 := Heap.get?_push_of_some { cls := .type "tuple", data := .seq #[] } ((Heap.get?_update_other s.heap (Obj.mapFields (·.setIfInBounds 0 Value.none)) (Ne.symm nb)).trans eb)
    rw [y2 b (fun q => absurd (Heap.lt_size k1) (by rw [q]; exact Nat.lt_irrefl _))]
    exact Heap.get?_push_of_some _ k1
end
end Ap
end
section
set_option Elab.async false
set_option genSizeOf false
set_option linter.unusedVariables false
set_option linter.unusedSimpArgs false
namespace Ap
open PySem PySem.Calls PyProof.Rows
def Vo.plus (V : Vo) (wr : List Addr) : Vo := ⟨V.l, V.fs, wr ++ V.its⟩
section
variable {C : Cx} {A : Around} {q : Bool} {env : Env} {V : Vo} {nms : List Str} {ρ : Loc} {σ σ' : St} {ow ow' : Nat → Option Nat} {s s' : Shared} {outer : List Env} {wr : List Addr}
theorem Vo.plus_sub : ∀ b ∈ zss V, b ∈ zss (V.plus wr) := fun b h => by
  rcases List.mem_append.mp h with h | h
  · exact List.mem_append_left _ h
  · exact List.mem_append_right _ (List.mem_append_right _ h)
theorem Vo.plus_mem {b : Addr} (h : b ∈ zss (V.plus wr)) : b ∈ zss V ∨ b ∈ wr := by
  rcases List.mem_append.mp h with h | h
  · exact .inl (List.mem_append_left _ h)
  · rcases List.mem_append.mp h with h | h
    · exact .inr h
    · exact .inl (List.mem_append_right _ h)
theorem Vo.plus_wr {b : Addr} (h : b ∈ wr) : b ∈ zss (V.plus wr) := List.mem_append_right _ (List.mem_append_left _ h)
theorem zs_plus {b : Addr} (h : Zs σ ow (zss V) b) : Zs σ ow (zss (V.plus wr)) b := h.imp id (Vo.plus_sub b)
theorem Good.open_ {h' : Heap} {t : Nat} (G : Good C V σ ow s) (gr : ∀ b o, s.heap.get? b = some o → h'.get? b = some o) (fr : ∀ b ∈ wr, s.heap.get? b = Option.none ∧ ∃ o, h'.get? b = some o) : Good C (V.plus wr) σ ow { s with heap := h', toks := t } := by
  have zg : Zg (Zs σ ow (zss V)) (Zs σ ow (zss (V.plus wr))) s.heap := fun b z => by
    rcases z with z | z
    · exact .inl (.inl z)
    · rcases Vo.plus_mem z with z | z
      · exact .inl (.inr z)
      · exact .inr (fr b z).1
  refine ⟨fun b o e => gr b o (G.stays b o e), G.frames.of_keeps fun b o e _ => ⟨o, gr b o e, rfl⟩, fun b m n => ?_, fun b m => ?_, G.sub, fun b o' e => ?_, fun b c e => ?_, G.fresh, fun L hL z => ?_, G.gens⟩
  · rcases List.mem_append.mp m with m | m
    · obtain ⟨_, o, z⟩ := G.mem b (V.sub b n)
      rw [(fr b m).1] at z; cases z
    · exact G.apart b m n
  · rcases Vo.plus_mem m with m | m
    · obtain ⟨x, o, z⟩ := G.mem b m
      exact ⟨x, o, gr b o z⟩
    · refine ⟨?_, (fr b m).2⟩
      cases z : C.base.get? b with
      | none => rfl
      | some o => have := G.stays b o z; rw [(fr b m).1] at this; cases this
  · have x := G.store b o' e
    obtain ⟨oa, ea⟩ := Option.isSome_iff_exists.mp x.live
    exact x.kp (fun b o e _ => gr b o e) zg (by rw [ea]; exact gr b oa ea) fun dx hd => by
      obtain ⟨od, ed⟩ := Option.isSome_iff_exists.mp (G.parts dx b hd).2.2
      exact ⟨by rw [ed]; exact gr dx od ed, hd⟩
  · obtain ⟨x1, x2, x3⟩ := G.parts b c e
    obtain ⟨od, ed⟩ := Option.isSome_iff_exists.mp x3
    exact ⟨x1, x2, by show (h'.get? b).isSome = true; rw [gr b od ed]; rfl⟩
  · rcases Vo.plus_mem hL with m | m
    · exact G.off L m z
    · obtain ⟨o, y⟩ := G.live z
      rw [(fr L m).1] at y; cases y
theorem Good.close_ (G : Good C (V.plus wr) σ ow s) : Good C V σ ow s := by
  have zg : ∀ h : Heap, Zg (Zs σ ow (zss (V.plus wr))) (Zs σ ow (zss V)) h := fun h b z => .inl (zs_plus z)
  refine ⟨G.stays, G.frames, fun b m => G.apart b (List.mem_append_right _ m), fun b m => G.mem b (Vo.plus_sub b m), G.sub, fun b o' e => ?_, G.parts, G.fresh, fun L hL => G.off L (Vo.plus_sub L hL), G.gens⟩
  exact (G.store b o' e).kp (fun _ _ e _ => e) (zg _) rfl fun dx hd => ⟨rfl, hd⟩
theorem Good.its {h' : Heap} {t : Nat} (G : Good C (V.plus wr) σ ow s) (k : ∀ b o, b ∉ wr → s.heap.get? b = some o → h'.get? b = some o) (lv : ∀ b ∈ wr, ∃ o, h'.get? b = some o) : Good C (V.plus wr) σ ow { s with heap := h', toks := t } := by
  have no : ∀ b, Own σ ow b → b ∉ wr := fun b z m => G.off b (Vo.plus_wr m) z
  have hK : Kp (Zs σ ow (zss (V.plus wr))) s.heap h' := fun b o e n => k b o (fun m => n (.inr (Vo.plus_wr m))) e
  have nf : ∀ b ∈ V.fs, b ∉ wr := fun b m n => G.apart b (List.mem_append_left _ n) m
  refine ⟨fun b o e => k b o (fun m => ?_) (G.stays b o e), ?_, G.apart, fun b m => ?_, G.sub, fun b o' e => ?_, fun b c e => ?_, G.fresh, G.off, G.gens⟩
  · rw [(G.mem b (Vo.plus_wr m)).1] at e; cases e
  · have : ∀ l : List Env, (∀ L ∈ l.filterMap (·.frame), L ∉ wr) → s.heap.FunFrames C.base l → h'.FunFrames C.base l := by
      intro l
      induction l with
      | nil => intro _ _; trivial
      | cons env r ih =>
        rintro hn ⟨hk, ⟨L, ob, hf, hb, ho, hdt⟩, hr⟩
        refine ⟨hk, ⟨L, ob, hf, hb, k L ob (hn L (by simp [List.filterMap_cons, hf])) ho, hdt⟩, ih (fun L hL => hn L ?_) hr⟩
        rw [List.filterMap_cons, hf]; exact List.mem_cons_of_mem _ hL
    exact this _ (fun L hL => by
      obtain ⟨env, he, hf⟩ := List.mem_filterMap.mp hL
      exact nf L (G.sub env he L hf)) G.frames
  · obtain ⟨x, o, e⟩ := G.mem b m
    by_cases z : b ∈ wr
    · exact ⟨x, lv b z⟩
    · exact ⟨x, o, k b o z e⟩
  · have x := G.store b o' e
    obtain ⟨oa, ea⟩ := Option.isSome_iff_exists.mp x.live
    exact x.kp hK (Zg.refl _ _) (by rw [ea]; exact k b oa (no b (.inl (by rw [e]; rfl))) ea) fun dx hd => by
      obtain ⟨od, ed⟩ := Option.isSome_iff_exists.mp (G.parts dx b hd).2.2
      exact ⟨by rw [ed]; exact k dx od (no dx (.inr (by rw [hd]; rfl))) ed, hd⟩
  · obtain ⟨x1, x2, x3⟩ := G.parts b c e
    obtain ⟨od, ed⟩ := Option.isSome_iff_exists.mp x3
    exact ⟨x1, x2, by show (h'.get? b).isSome = true; rw [k b od (no b (.inr (by rw [e]; rfl))) ed]; rfl⟩
theorem FEnv.plus (F : FEnv env nms V outer) : FEnv env nms (V.plus wr) outer := ⟨F.l, F.kind, F.frame, F.inF, F.cel, F.apart, F.nodup, F.kinds⟩
theorem AOk.plus {d : Nat} (x : AOk A V d) : AOk A (V.plus wr) d := ⟨x.frames, x.depth, x.units⟩
theorem Ok.open_ {h' : Heap} {t : Nat} (k : Ok C A q env V nms ρ σ ow s) (gr : ∀ b o, s.heap.get? b = some o → h'.get? b = some o) (fr : ∀ b ∈ wr, s.heap.get? b = Option.none ∧ ∃ o, h'.get? b = some o) : Ok C A q env (V.plus wr) nms ρ σ ow { s with heap := h', toks := t } := by
  have zg : Zg (Zs σ ow (zss V)) (Zs σ ow (zss (V.plus wr))) s.heap := fun b z => by
    rcases z with z | z
    · exact .inl (.inl z)
    · rcases Vo.plus_mem z with z | z
      · exact .inl (.inr z)
      · exact .inr (fr b z).1
  refine ⟨k.good.open_ gr fr, ⟨k.loc.kind, k.loc.glob, k.loc.blt, k.loc.offL, fun j w e => ?_⟩, ?_, let ⟨o, e⟩ := k.live; ⟨o, gr _ _ e⟩⟩
  · obtain ⟨y, val, ey, ry, ly⟩ := k.loc.val j w e
    refine ⟨y, val, ey, ry.kp (fun b o e _ => gr b o e) zg, ?_⟩
    rcases ly with ⟨kd, m', hns, hm⟩ | ⟨c, kd, hc, ⟨o, eo, d⟩, hz⟩
    · exact .inl ⟨kd, m', hns.at' fun o e => gr _ _ e, hm⟩
    · exact .inr ⟨c, kd, hc, ⟨o, gr _ _ eo, d⟩, hz⟩
  · rcases k.hnd with h | ⟨hq, e, o, vs, h1, h2, h3, h4, h5⟩
    · exact .inl h
    · exact .inr ⟨hq, e, o, vs, h1, gr _ _ h2, h3, h4, zg.not h2 h5⟩
theorem SOk.open_ {h' : Heap} {t : Nat} (k : SOk C A q env V nms ρ σ ow s) (gr : ∀ b o, s.heap.get? b = some o → h'.get? b = some o) (fr : ∀ b ∈ wr, s.heap.get? b = Option.none ∧ ∃ o, h'.get? b = some o) : SOk C A q env (V.plus wr) nms ρ σ ow { s with heap := h', toks := t } :=
  ⟨k.ok.open_ gr fr, let ⟨m, h⟩ := k.ns; ⟨m, h.at' fun o e => gr _ _ e⟩, fun y c hc => let ⟨v, o, e, d⟩ := k.cells y c hc; ⟨v, o, gr _ _ e, d⟩⟩
theorem Ok.close_ (k : Ok C A q env (V.plus wr) nms ρ σ ow s) : Ok C A q env V nms ρ σ ow s := by
  refine ⟨k.good.close_, ⟨k.loc.kind, k.loc.glob, k.loc.blt, k.loc.offL, fun j w e => ?_⟩, ?_, k.live⟩
  · obtain ⟨y, val, ey, ry, ly⟩ := k.loc.val j w e
    exact ⟨y, val, ey, ry.kp (fun _ _ e _ => e) fun b z => .inl (zs_plus z), ly⟩
  · rcases k.hnd with h | ⟨hq, e, o, vs, h1, h2, h3, h4, h5⟩
    · exact .inl h
    · exact .inr ⟨hq, e, o, vs, h1, h2, h3, h4, fun z => h5 (zs_plus z)⟩
theorem SOk.close_ (k : SOk C A q env (V.plus wr) nms ρ σ ow s) : SOk C A q env V nms ρ σ ow s := ⟨k.ok.close_, k.ns, k.cells⟩
theorem SOk.its (F : FEnv env nms V outer) {h' : Heap} {t : Nat} (K : SOk C A q env (V.plus wr) nms ρ σ ow s) (k : ∀ b o, b ∉ wr → s.heap.get? b = some o → h'.get? b = some o) (lv : ∀ b ∈ wr, ∃ o, h'.get? b = some o) : SOk C A q env (V.plus wr) nms ρ σ ow { s with heap := h', toks := t } := by
  have hK : Kp (Zs σ ow (zss (V.plus wr))) s.heap h' := fun b o e n => k b o (fun m => n (.inr (Vo.plus_wr m))) e
  have nf : ∀ b ∈ V.fs, b ∉ wr := fun b m n => K.ok.good.apart b (List.mem_append_left _ n) m
  have nL := nf _ F.inF
  refine ⟨⟨K.ok.good.its k lv, ⟨K.ok.loc.kind, K.ok.loc.glob, K.ok.loc.blt, K.ok.loc.offL, fun j w e => ?_⟩, ?_, let ⟨o, e⟩ := K.ok.live; ⟨o, k _ _ nL e⟩⟩, let ⟨m, h⟩ := K.ns; ⟨m, h.at' fun o e => k _ _ nL e⟩, fun y c hc => let ⟨v, o, e, d⟩ := K.cells y c hc; ⟨v, o, k _ _ (nf _ (F.cel y c hc).1) e, d⟩⟩
  · obtain ⟨y, val, ey, ry, ly⟩ := K.ok.loc.val j w e
    refine ⟨y, val, ey, ry.kp hK (Zg.refl _ _), ?_⟩
    rcases ly with ⟨kd, m', hns, hm⟩ | ⟨c, kd, hc, ⟨o, eo, d⟩, hz⟩
    · exact .inl ⟨kd, m', hns.at' fun o e => k _ _ nL e, hm⟩
    · exact .inr ⟨c, kd, hc, ⟨o, k _ _ (nf _ (F.cel y c hc).1) eo, d⟩, hz⟩
  · rcases K.ok.hnd with h | ⟨hq, e, o, vs, h1, h2, h3, h4, h5⟩
    · exact .inl h
    · exact .inr ⟨hq, e, o, vs, h1, hK _ _ h2 h5, h3, h4, h5⟩
theorem SStp.its {X : List Addr} {O O' : Nat → Prop} {s₀ : Shared} {h' : Heap} {t : Nat} (x : SStp X V.fs O O' s₀ s) (G : ∀ b ∈ V.fs, b ∉ wr) (k : ∀ b o, b ∉ wr → s.heap.get? b = some o → h'.get? b = some o) (fr : ∀ b ∈ wr, s₀.heap.get? b = Option.none) :
    SStp X V.fs O O' s₀ { s with heap := h', toks := t } where
  keep := fun b o e n m => k b o (fun w => by rw [fr b w] at e; cases e) (x.keep b o e n m)
  frm := fun b o e m n => let ⟨sl, z⟩ := x.frm b o e m n; ⟨sl, k b _ (G b m) z⟩
  liv := fun b o e m => let ⟨o', z⟩ := x.liv b o e m; ⟨o', k b _ (G b m) z⟩
  grow := x.grow
  fresh := x.fresh
  gens := x.gens
  drawn := x.drawn
  os := x.os
/-- the iterators go -/
theorem Good.drop {h' : Heap} {t : Nat} (G : Good C (V.plus wr) σ ow s) (nz : ∀ b ∈ wr, b ∉ V.its) (k : ∀ b o, b ∉ wr → s.heap.get? b = some o → h'.get? b = some o) : Good C V σ ow { s with heap := h', toks := t } := by
  have no : ∀ b, Own σ ow b → b ∉ wr := fun b z m => G.off b (Vo.plus_wr m) z
  have nf : ∀ b ∈ V.fs, b ∉ wr := fun b m n => G.apart b (List.mem_append_left _ n) m
  have hK : Kp (Zs σ ow (zss (V.plus wr))) s.heap h' := fun b o e n => k b o (fun m => n (.inr (Vo.plus_wr m))) e
  have zg : Zg (Zs σ ow (zss (V.plus wr))) (Zs σ ow (zss V)) s.heap := fun b z => .inl (zs_plus z)
  have nv : ∀ b ∈ zss V, b ∉ wr := fun b m => by
    rcases List.mem_append.mp m with m | m
    · exact nf b m
    · exact fun w => nz b w m
  refine ⟨fun b o e => k b o (fun m => ?_) (G.stays b o e), ?_, fun b m => G.apart b (List.mem_append_right _ m), fun b m => ?_, G.sub, fun b o' e => ?_, fun b c e => ?_, G.fresh, fun L hL => G.off L (Vo.plus_sub L hL), G.gens⟩
  · rw [(G.mem b (Vo.plus_wr m)).1] at e; cases e
  · have : ∀ l : List Env, (∀ L ∈ l.filterMap (·.frame), L ∉ wr) → s.heap.FunFrames C.base l → h'.FunFrames C.base l := by
      intro l
      induction l with
      | nil => intro _ _; trivial
      | cons env r ih =>
        rintro hn ⟨hk, ⟨L, ob, hf, hb, ho, hdt⟩, hr⟩
        refine ⟨hk, ⟨L, ob, hf, hb, k L ob (hn L (by simp [List.filterMap_cons, hf])) ho, hdt⟩, ih (fun L hL => hn L ?_) hr⟩
        rw [List.filterMap_cons, hf]; exact List.mem_cons_of_mem _ hL
    exact this _ (fun L hL => by
      obtain ⟨env, he, hf⟩ := List.mem_filterMap.mp hL
      exact nf L (G.sub env he L hf)) G.frames
  · obtain ⟨x, o, e⟩ := G.mem b (Vo.plus_sub b m)
    exact ⟨x, o, k b o (nv b m) e⟩
  · have x := G.store b o' e
    obtain ⟨oa, ea⟩ := Option.isSome_iff_exists.mp x.live
    exact x.kp hK zg (by rw [ea]; exact k b oa (no b (.inl (by rw [e]; rfl))) ea) fun dx hd => by
      obtain ⟨od, ed⟩ := Option.isSome_iff_exists.mp (G.parts dx b hd).2.2
      exact ⟨by rw [ed]; exact k dx od (no dx (.inr (by rw [hd]; rfl))) ed, hd⟩
  · obtain ⟨x1, x2, x3⟩ := G.parts b c e
    obtain ⟨od, ed⟩ := Option.isSome_iff_exists.mp x3
    exact ⟨x1, x2, by show (h'.get? b).isSome = true; rw [k b od (no b (.inr (by rw [e]; rfl))) ed]; rfl⟩
theorem SOk.drop (F : FEnv env nms V outer) {h' : Heap} {t : Nat} (K : SOk C A q env (V.plus wr) nms ρ σ ow s) (nz : ∀ b ∈ wr, b ∉ V.its) (k : ∀ b o, b ∉ wr → s.heap.get? b = some o → h'.get? b = some o) : SOk C A q env V nms ρ σ ow { s with heap := h', toks := t } := by
  have hK : Kp (Zs σ ow (zss (V.plus wr))) s.heap h' := fun b o e n => k b o (fun m => n (.inr (Vo.plus_wr m))) e
  have zg : Zg (Zs σ ow (zss (V.plus wr))) (Zs σ ow (zss V)) s.heap := fun b z => .inl (zs_plus z)
  have nf : ∀ b ∈ V.fs, b ∉ wr := fun b m n => K.ok.good.apart b (List.mem_append_left _ n) m
  have nL := nf _ F.inF
  refine ⟨⟨K.ok.good.drop nz k, ⟨K.ok.loc.kind, K.ok.loc.glob, K.ok.loc.blt, K.ok.loc.offL, fun j w e => ?_⟩, ?_, let ⟨o, e⟩ := K.ok.live; ⟨o, k _ _ nL e⟩⟩, let ⟨m, h⟩ := K.ns; ⟨m, h.at' fun o e => k _ _ nL e⟩, fun y c hc => let ⟨v, o, e, d⟩ := K.cells y c hc; ⟨v, o, k _ _ (nf _ (F.cel y c hc).1) e, d⟩⟩
  · obtain ⟨y, val, ey, ry, ly⟩ := K.ok.loc.val j w e
    refine ⟨y, val, ey, ry.kp hK zg, ?_⟩
    rcases ly with ⟨kd, m', hns, hm⟩ | ⟨c, kd, hc, ⟨o, eo, d⟩, hz⟩
    · exact .inl ⟨kd, m', hns.at' fun o e => k _ _ nL e, hm⟩
    · exact .inr ⟨c, kd, hc, ⟨o, k _ _ (nf _ (F.cel y c hc).1) eo, d⟩, hz⟩
  · rcases K.ok.hnd with h | ⟨hq, e, o, vs, h1, h2, h3, h4, h5⟩
    · exact .inl h
    · exact .inr ⟨hq, e, o, vs, h1, hK _ _ h2 h5, h3, h4, fun z => h5 (zs_plus z)⟩
/-- what an iterator does: the items in turn, then the end -/
structure It (C : Cx) (A : Around) (q : Bool) (target : Expr) (V : Vo) (I : Addr) (wr : List Addr) (xs : List AV) (G : St → Prop) (inv : Nat → St → (Nat → Option Nat) → Shared → Prop) : Prop where
  step : ∀ X i σ ow s σ' ow' s', inv i σ ow s → Good C (V.plus wr) σ ow s → SStp X V.fs (Own σ ow) (Own σ' ow') s s' → Good C (V.plus wr) σ' ow' s' → G σ' → inv i σ' ow' s'
  next : ∀ i x σ ow s (Q : Value → Shared → Prop) E, xs[i]? = some x → inv i σ ow s → Good C (V.plus wr) σ ow s → G σ →
    (∀ v h' tk, VR C (Zs σ ow (zss (V.plus wr))) h' x v → inv (i + 1) σ ow { s with heap := h', toks := tk } → (∀ b o, b ∉ wr → s.heap.get? b = some o → h'.get? b = some o) → (∀ b ∈ wr, ∃ o, h'.get? b = some o) → Q v { s with heap := h', toks := tk }) →
    wpAny (model C.prog C.w) A (pyNext (.ref I)) (fun r s₁ => match r with | Option.none => False | some v => wpAny (model C.prog C.w) A (letOwnedTupleGo target (.ref I) v) (fun _ s₂ => Q v s₂) E s₁) E s
  done : ∀ σ ow s (Q : Option Value → Shared → Prop) E, inv xs.length σ ow s → Good C (V.plus wr) σ ow s → HOk A q (Zs σ ow (zss (V.plus wr))) s.heap → G σ →
    (∀ h' tk, (∀ b o, b ∉ wr → s.heap.get? b = some o → h'.get? b = some o) → Q Option.none { s with heap := h', toks := tk }) → wpAny (model C.prog C.w) A (pyNext (.ref I)) Q E s
  move : ∀ i σ ow s h' tk, inv i σ ow s → Good C (V.plus wr) σ ow s → (∀ b o, (b ∈ V.its → b ∈ wr) → s.heap.get? b = some o → h'.get? b = some o) → inv i σ ow { s with heap := h', toks := tk }
  self : ∀ i σ ow s (Q : Value → Shared → Prop) E, inv i σ ow s → Good C (V.plus wr) σ ow s → Q (.ref I) s → wpAny (model C.prog C.w) A (pyIter (.ref I)) Q E s
theorem loop_snd (F : FEnv env nms V outer) (hA : A.frames = some V.l) {n : Str} {np : Pos} {x : Nat} (hx : nms[x]? = some n) {body : List Stmt} {I : Addr} {xs : List AV} {G : St → Prop} {inv : Nat → St → (Nat → Option Nat) → Shared → Prop} {W : WS}
    (it : It C A q (.Name n np) V I wr xs G inv) (hB : SndS C A q env (V.plus wr) nms (execs body env) W)
    {σ₀ : St} {ow₀ : Nat → Option Nat} {s₀ : Shared} {Qa : QS} {Ea : ES} {Q : Flow → Shared → Prop} {E : Value → Shared → Prop} (hb : C.base.StaysIn s₀.heap) (fr : ∀ b ∈ wr, s₀.heap.get? b = Option.none) (nz : ∀ b ∈ wr, b ∉ V.its)
    (ks : KS C A q env V nms σ₀ ow₀ s₀ Qa Q) (kx : KXS C A q env V nms σ₀ ow₀ s₀ Ea E)
    (hi : inv 0 σ ow s) (k : SOk C A q env (V.plus wr) nms ρ σ ow s) (st : SStp (ownX env) V.fs (Own σ₀ ow₀) (Own σ ow) s₀ s)
    (w : forL G (bOne x W Ea) xs ρ σ Qa) :
    codeAny (model C.prog C.w) A (.forLoop (.Name n np) (.ref I) body [] env) (fun r s' => match r with | .ok f => Q f s' | .error e => cameBackBy (model C.prog C.w) A env E e s') s := by
  refine codeAny_forLoop_any (fun n s => ∃ i ρ σ ow, n = xs.length - i ∧ i ≤ xs.length ∧ inv i σ ow s ∧ SOk C A q env (V.plus wr) nms ρ σ ow s ∧ SStp (ownX env) V.fs (Own σ₀ ow₀) (Own σ ow) s₀ s ∧
    forL G (bOne x W Ea) (xs.drop i) ρ σ Qa) ?_ xs.length ⟨0, ρ, σ, ow, by omega, by omega, hi, k, st, by simpa using w⟩
  rintro m s ⟨i, ρ, σ, ow, hn, hle, hi, k, st, w⟩
  have nf : ∀ b ∈ V.fs, b ∉ wr := fun b m n => k.ok.good.apart b (List.mem_append_left _ n) m
  by_cases hlt : i < xs.length
  · have hd : xs.drop i = xs[i] :: xs.drop (i + 1) := List.drop_eq_getElem_cons hlt
    rw [hd] at w
    obtain ⟨hG, w⟩ := w
    · refine wpAny_mono (it.next i xs[i] σ ow s _ _ (List.getElem?_eq_getElem hlt) hi k.ok.good hG ?_) (fun r s₁ h₁ => by
        cases r with
        | none => exact False.elim h₁
        | some v => exact h₁) fun _ _ z => z
      intro v h' tk r hi' hk lv
      have k' := k.its (t := tk) F hk lv
      have st' := st.its (t := tk) nf hk fr
      refine assign_Name (store_snd F.plus hx k' r fun s₂ st₂ k₂ => ?_)
      have st₂' := st'.trans st₂
      have hi₂ := it.step _ (i + 1) σ ow _ σ ow s₂ hi' k'.ok.good st₂ k₂.ok.good hG
      refine hB _ σ ow s₂ _ Ea _ _ w k₂ (fun fl af ρ₃ σ₃ ow₃ s₃ z st₃ k₃ rf => ?_) (fun e c ρ₃ σ₃ ow₃ s₃ z st₃ k₃ th => ?_)
      · cases rf with
        | next =>
          have z : forL G (bOne x W Ea) (xs.drop (i + 1)) ρ₃ σ₃ Qa := z
          have hG3 : G σ₃ := by
            cases hdd : xs.drop (i + 1) with
            | nil => rw [hdd] at z; exact z.1
            | cons y ys => rw [hdd] at z; exact z.1
          exact ⟨xs.length - (i + 1), by omega, i + 1, ρ₃, σ₃, ow₃, rfl, hlt, it.step _ (i + 1) σ ow _ σ₃ ow₃ s₃ hi₂ k₂.ok.good st₃ k₃.ok.good hG3, k₃, st₂'.trans st₃, z⟩
        | ret r' => exact ks _ _ ρ₃ σ₃ ow₃ s₃ z (st₂'.trans st₃) k₃.close_ (.ret (r'.kp (fun _ _ e _ => e) fun b z => .inl (zs_plus z)))
      · exact noted_snd F hA hb (st₂'.trans st₃) k₃.close_ (ThrA.up (st₂'.back k₂.ok.good) (th.mono (fun _ z => z) fun _ z => zs_plus z)) z kx
  · have he : i = xs.length := by omega
    subst he
    rw [List.drop_length] at w
    obtain ⟨hG, w⟩ := w
    refine it.done σ ow s _ _ hi k.ok.good k.ok.hnd hG fun h' tk hk => ?_
    exact wpAny_execs_nil (ks _ _ ρ σ ow _ w (st.its nf hk fr) (k.drop F nz hk) .next)
end
end Ap
end
section
set_option Elab.async false
set_option linter.unusedVariables false
set_option linter.unusedSimpArgs false
namespace Ap
open PySem PySem.Calls PyProof.Rows
section
variable {C : Cx} {A : Around} {q : Bool} {env : Env} {V : Vo} {nms : List Str} {ρ : Loc} {σ σ' : St} {ow ow' : Nat → Option Nat} {s s' : Shared} {outer : List Env} {wr : List Addr}
theorem owned_list {target : Expr} {I l : Addr} {i : Nat} {v : Value} {Q : Unit → Shared → Prop} {E : Value → Shared → Prop} (hit : s.heap.IsListIter I l i) (hQ : Q () s) : wpAny (model C.prog C.w) A (letOwnedTupleGo target (.ref I) v) Q E s := by
  obtain ⟨o, ho, hc, hd⟩ := hit
  have key : wpAny (model C.prog C.w) A (do
      let (.ref r, .ref a) := ((.ref I : Value), v) | return
      let o ← load r
      match o.cls, o.data with
      | .type n, .fields vs =>
        if ["enumerate", "zip", "dict_itemiterator", "dict_reverseitemiterator", "odict_iterator", "itertools.zip_longest", "itertools.pairwise"].contains n && vs[0]? == some (rawInt a) then
          rule "for.unpacks-the-owned-tuple"
          updateField r 0 .none
      | _, _ => pure ()) Q E s := by
    cases v <;> first | exact wpAny_pure hQ | skip
    refine wpAny_bind (wpAny_load ho ?_)
    rw [hc, hd]
    exact wpAny_pure hQ
  unfold letOwnedTupleGo
  cases target <;> first | exact key | exact wpAny_pure hQ
theorem it_keep {X : List Addr} {I : Addr} {o : Obj} (G : Good C (V.plus wr) σ ow s) (hI : I ∈ wr) (x : SStp X V.fs (Own σ ow) (Own σ' ow') s s') (e : s.heap.get? I = some o) : s'.heap.get? I = some o :=
  x.keep I o e (G.off I (Vo.plus_wr hI)) (G.apart I (List.mem_append_left _ hI))
theorem HOk.low {Z : Nat → Prop} {h : Heap} (x : HOk A q Z h) : HLow A h := x.imp id fun ⟨_, e, o, vs, h1, h2, h3, h4, _⟩ => ⟨e, o, vs, h1, h2, h3, h4⟩
theorem HOk.ne {Z : Nat → Prop} {h : Heap} {I : Addr} (x : HOk A q Z h) (hI : Z I) (e : Addr) (he : A.handled = some (.ref e)) : e ≠ I := by
  rcases x with x | ⟨_, e', o, vs, h1, h2, h3, h4, h5⟩
  · rw [x] at he; cases he
  · rw [h1] at he; cases he; exact fun q => h5 (q ▸ hI)
/-- over a list that nothing changes -/
def invI (C : Cx) (V : Vo) (I ax : Addr) (vs : List Value) (xs : List AV) (i : Nat) (σ : St) (ow : Nat → Option Nat) (s : Shared) : Prop :=
  s.heap.IsListIter I ax i ∧ IsL s.heap ax vs ∧ VRs C (Zs σ ow (zss (V.plus [I]))) s.heap xs vs ∧ ¬ Zs σ ow (zss (V.plus [I])) ax
theorem It.ilist {target : Expr} {I ax : Addr} {vs : List Value} {xs : List AV} {G : St → Prop} : It C A q target V I [I] xs G (invI C V I ax vs xs) where
  step := fun X i σ ow s σ' ow' s' ⟨⟨o, e1, e2, e3⟩, li, r, n⟩ g x g' _ => by
    have li' := li.kp (x.kp (zs := zss (V.plus [I])) (V.plus [I]).sub) n
    refine ⟨⟨o, it_keep g (by simp) x e1, e2, e3⟩, li', SStp.vrs (envs := V.plus [I]) x r, ?_⟩
    obtain ⟨_, m, e⟩ := li
    exact (x.zg (zs := zss (V.plus [I]))).not e n
  next := fun i x σ ow s Q E hx ⟨it, li, r, n⟩ g _ h => by
    obtain ⟨u, hu, ru⟩ := r.get i x hx
    obtain ⟨hh, gg, dd, tt, oo⟩ := s
    refine wpAny_pyNext_list_item it li.isList (by simpa using hu) fun h' it' hs => ?_
    have hk : ∀ b o, b ∉ [I] → hh.get? b = some o → h'.get? b = some o := fun b o nb e => (hs.2 b (by simpa using nb)).trans e
    have hK : Kp (Zs σ ow (zss (V.plus [I]))) hh h' := fun b o e nb => hk b o (fun m => nb (.inr (Vo.plus_wr m))) e
    exact owned_list (s := ⟨h', gg, dd, tt, oo⟩) it' (h u h' tt (ru.kp hK (Zg.refl _ _)) ⟨it', li.kp hK n, r.kp hK (Zg.refl _ _), n⟩ hk fun b m => by
      obtain ⟨o, e, _⟩ := it'
      exact ⟨o, by rw [List.mem_singleton.mp m]; exact e⟩)
  done := fun σ ow s Q E ⟨it, li, r, n⟩ g hh _ h => by
    obtain ⟨hp, gg, dd, tt, oo⟩ := s
    refine next_list_end' hh.low it li.isList (by rw [List.getElem?_toArray, List.getElem?_eq_none]; rw [r.length]; exact Nat.le_refl _) (fun e he => hh.ne (.inr (Vo.plus_wr (by simp))) e he) fun h' hx lv => ?_
    exact h h' tt (fun b o nb e => hx b o (by simpa using nb) e)
  move := fun i σ ow s h' tk ⟨⟨o, e1, e2, e3⟩, li, r, n⟩ g k => by
    have hK : Kp (Zs σ ow (zss (V.plus [I]))) s.heap h' := fun b o e nb => k b o (fun m => absurd (.inr (Vo.plus_sub b (List.mem_append_right _ m))) nb) e
    exact ⟨⟨o, k _ _ (fun _ => by simp) e1, e2, e3⟩, li.kp hK n, r.kp hK (Zg.refl _ _), n⟩
  self := fun i σ ow s Q E ⟨it, _⟩ g h => wpAny_pyIter_listiter it h
/-- over a list of the call's own: it must stand still -/
theorem It.own {target : Expr} {I a : Addr} {xs : List AV} : It C A q target V I [I] xs (fun σ => σ a = some (.list xs)) (fun i σ ow s => s.heap.IsListIter I a i) where
  step := fun X i σ ow s σ' ow' s' ⟨o, e1, e2, e3⟩ g x g' _ => ⟨o, it_keep g (by simp) x e1, e2, e3⟩
  next := fun i x σ ow s Q E hx it g hG h => by
    obtain ⟨vs, li, r⟩ := g.store _ _ hG
    obtain ⟨u, hu, ru⟩ := r.get i x hx
    obtain ⟨hh, gg, dd, tt, oo⟩ := s
    refine wpAny_pyNext_list_item it li.isList (by simpa using hu) fun h' it' hs => ?_
    have hk : ∀ b o, b ∉ [I] → hh.get? b = some o → h'.get? b = some o := fun b o nb e => (hs.2 b (by simpa using nb)).trans e
    have hK : Kp (Zs σ ow (zss (V.plus [I]))) hh h' := fun b o e nb => hk b o (fun m => nb (.inr (Vo.plus_wr m))) e
    exact owned_list (s := ⟨h', gg, dd, tt, oo⟩) it' (h u h' tt (ru.kp hK (Zg.refl _ _)) it' hk fun b m => by
      obtain ⟨o, e, _⟩ := it'
      exact ⟨o, by rw [List.mem_singleton.mp m]; exact e⟩)
  done := fun σ ow s Q E it g hh hG h => by
    obtain ⟨vs, li, r⟩ := g.store _ _ hG
    obtain ⟨hp, gg, dd, tt, oo⟩ := s
    refine next_list_end' hh.low it li.isList (by rw [List.getElem?_toArray, List.getElem?_eq_none]; rw [r.length]; exact Nat.le_refl _) (fun e he => hh.ne (.inr (Vo.plus_wr (by simp))) e he) fun h' hx lv => ?_
    exact h h' tt (fun b o nb e => hx b o (by simpa using nb) e)
  move := fun i σ ow s h' tk ⟨o, e1, e2, e3⟩ g k => ⟨o, k _ _ (fun _ => by simp) e1, e2, e3⟩
  self := fun i σ ow s Q E it g h => wpAny_pyIter_listiter it h
end
end Ap
end
section
set_option Elab.async false
set_option linter.unusedVariables false
set_option linter.unusedSimpArgs false
set_option linter.unusedSectionVars false
namespace Ap
open PySem PySem.Calls PyProof.Rows
def plainBase : Expr → Bool
  | .Name .. => true
  | .Attribute .. => true
  | .Subscript .. => true
  | .Constant .. => true
  | _ => false
theorem base_plain {o : Expr} {name : Str} {env : Env} {t : Sem Value} (h : plainBase o = true) : attributeBase o name env t = t := by
  cases o <;> first | rfl | exact Bool.noConfusion h
/-- the name is one of the module, or a built-in one -/
def gl (sc : Scope) (x : Str) : Bool := sc.names.lookup x == some .globalImplicit && !(x == ("__debug__" : Str)) && !(x == ("__name__" : Str))
def notThru : Expr → Bool
  | .UnaryOp .Not .. => false
  | .BoolOp .. => false
  | .IfExp .. => false
  | .Compare .. => false
  | _ => true
def wT (w : WE) : WBl := fun ρ σ Q E => w ρ σ (onT Q) E
structure Both (C : Cx) (d : Nat) (sc : Scope) (nms : List Str) (q : Bool) (w : WE) (x : Expr) : Prop where
  ev : ∀ A env envs ρ, env.scope = sc → AOk A envs d → Snd C A q env envs nms ρ (RV C) (eval x env) (w ρ)
  tr : ∀ A env envs ρ, env.scope = sc → AOk A envs d → Snd C A q env envs nms ρ (RB C) (isTrue x env (eval x env)) (wT w ρ)
inductive BothL (C : Cx) (d : Nat) (sc : Scope) (nms : List Str) (q : Bool) : WL → List Expr → Prop
  | nil : BothL C d sc nms q lNil []
  | cons {e : WE} {x : Expr} {es : WL} {xs : List Expr} : Both C d sc nms q e x → notStar x = true → BothL C d sc nms q es xs → BothL C d sc nms q (lCons e es) (x :: xs)
inductive BothBl (C : Cx) (d : Nat) (sc : Scope) (nms : List Str) (q and : Bool) : WBl → List Expr → Prop
  | one {e : WE} {x : Expr} : Both C d sc nms q e x → BothBl C d sc nms q and (blCons and e (blNil and)) [x]
  | cons {e : WE} {x y : Expr} {r : WBl} {xs : List Expr} : Both C d sc nms q e x → BothBl C d sc nms q and r (y :: xs) → BothBl C d sc nms q and (blCons and e r) (x :: y :: xs)
inductive BothC (C : Cx) (d : Nat) (sc : Scope) (nms : List Str) (q : Bool) : (AV → WBl) → List CmpOp → List Expr → Prop
  | one {f : OC} {op : CmpOp} {e : WE} {x : Expr} : CmpSnd C op f → Both C d sc nms q e x → BothC C d sc nms q (cCons f e cNil) [op] [x]
  | cons {f : OC} {op o' : CmpOp} {e : WE} {x y : Expr} {r : AV → WBl} {os : List CmpOp} {xs : List Expr} : CmpSnd C op f → Both C d sc nms q e x → BothC C d sc nms q r (o' :: os) (y :: xs) → BothC C d sc nms q (cCons f e r) (op :: o' :: os) (x :: y :: xs)
section
variable {C : Cx} {T : Tabs} {P : Prg} {F : Calls} {d : Nat} {sc : Scope} {nms : List Str} {q : Bool}
theorem isTrue_else {x : Expr} {env : Env} {t : Sem Value} (h : notThru x = true) : isTrue x env t = (do let v ← t; standAt x.pos; holding [v] (truthy v)) := by
  cases x with
  | UnaryOp op y p => cases op <;> first | rfl | exact Bool.noConfusion h
  | _ => first | rfl | exact Bool.noConfusion h
theorem onT_of {R : Bool → St → Prop} {v : AV} {σ : St} {Z : Nat → Prop} {h : Heap} {u : Value} (r : VR C Z h v u) (w : onT R v σ) : ∃ b, v = .bool b ∧ u = .bool b ∧ R b σ := by
  cases r <;> first | exact False.elim w | exact ⟨_, rfl, rfl, w⟩
/-- the truth by the value -/
theorem Both.of {w : WE} {x : Expr} (h : notThru x = true) (ev : ∀ A env envs ρ, env.scope = sc → AOk A envs d → Snd C A q env envs nms ρ (RV C) (eval x env) (w ρ)) : Both C d sc nms q w x where
  ev := ev
  tr := fun A env envs ρ hs ha σ ow s Qa Ea Q E w ok kv kx => by
    rw [isTrue_else h]
    refine wpAny_bind (ev A env envs ρ hs ha σ ow s _ Ea _ E w ok (fun v av σ' ow' s' z st g r => ?_) kx)
    refine wpAny_bind (wpAny_standAt (wpAny_holding ?_))
    obtain ⟨b, rfl, rfl, z⟩ := onT_of r z
    exact wpAny_truthy_bool (kv _ _ σ' ow' s' z st g rfl)
theorem BothL.stars {es : WL} {xs : List Expr} (h : BothL C d sc nms q es xs) : xs.all notStar = true := by
  induction h with
  | nil => rfl
  | cons _ h2 _ ih => rw [List.all_cons, h2, ih]; rfl
def RLn (C : Cx) (n : Nat) (Z : Nat → Prop) (h : Heap) (av : List AV) (v : List Value) : Prop := VRs C Z h av v ∧ v.length = n
/-- the arguments, one after another -/
theorem BothL.snd {A : Around} {env : Env} {envs : Vo} {ρ : Loc} {pos : Pos} (hs : env.scope = sc) (ha : AOk A envs d) {es : WL} {xs : List Expr} (h : BothL C d sc nms q es xs) :
    Snd C A q env envs nms ρ (RLn C xs.length) (spliced (backTo pos (starEach xs env))) (es ρ) := by
  induction h with
  | nil => exact fun σ ow s Qa Ea Q E w ok kv kx => spliced_nil (kv _ _ σ ow s w (Stp.refl _ _ _) ok.good ⟨.nil, rfl⟩)
  | cons h1 h2 _ ih =>
    intro σ ow s Qa Ea Q E w ok kv kx
    rw [starEach_cons h2]
    refine spliced_cons (h1.ev A env envs ρ hs ha σ ow s _ Ea _ E w ok (fun v av σ' ow' s' z st g r => ?_) kx)
    refine ih σ' ow' s' _ Ea _ E z (ok.stp st g) (fun vs avs σ'' ow'' s'' z' st' g' r' => ?_) (kx.stp st g)
    exact kv _ _ σ'' ow'' s'' z' (st.trans st') g' ⟨.cons (st'.vr r) r'.1, congrArg Nat.succ r'.2⟩
variable {A : Around} {env : Env} {envs : Vo} {ρ : Loc} {pos : Pos} {σ : St} {ow : Nat → Option Nat} {s : Shared}
theorem brBl_cases {r : WBl} {ρ : Loc} {Q : Bool → St → Prop} {E : PE} {b and : Bool} {σ : St} (z : kBl and r ρ Q E b σ) : (b = and ∧ r ρ σ Q E) ∨ (b ≠ and ∧ Q b σ) := by
  cases b <;> cases and <;> first | exact .inl ⟨rfl, z⟩ | exact .inr ⟨by decide, z⟩
/-- and, or -/
theorem BothBl.ev (hs : env.scope = sc) (ha : AOk A envs d) {and : Bool} {r : WBl} {xs : List Expr} (h : BothBl C d sc nms q and r xs) :
    Snd C A q env envs nms ρ (fun _ _ (b : Bool) (v : Value) => v = .bool b) (boolOp pos (if and then .And else .Or) (evalEach xs env)) (r ρ) := by
  induction h with
  | @one e x h =>
    intro σ ow s Qa Ea Q E w ok kv kx
    show wpAny _ _ (eval x env) _ _ _
    refine h.ev A env envs ρ hs ha σ ow s _ Ea _ E w ok (fun v av σ' ow' s' z st g r => ?_) kx
    obtain ⟨b, rfl, rfl, z⟩ := onT_of r z
    refine kv (.bool b) b σ' ow' s' ?_ st g rfl
    rcases brBl_cases z with ⟨rfl, z⟩ | ⟨_, z⟩
    · exact z
    · exact z
  | @cons e x y r xs h _ ih =>
    intro σ ow s Qa Ea Q E w ok kv kx
    show wpAny _ _ (do
      let v ← eval x env
      standAt pos
      let t ← holding [v] (truthy v)
      match (if and then BoolOp.And else .Or), t with
      | .And, false | .Or, true => pure v
      | _, _ => boolOp pos (if and then BoolOp.And else .Or) (evalEach (y :: xs) env)) _ _ _
    refine wpAny_bind (h.ev A env envs ρ hs ha σ ow s _ Ea _ E w ok (fun v av σ' ow' s' z st g r => ?_) kx)
    refine wpAny_bind (wpAny_standAt (wpAny_bind (wpAny_holding ?_)))
    obtain ⟨b, rfl, rfl, z⟩ := onT_of r z
    refine wpAny_truthy_bool ?_
    rcases brBl_cases z with ⟨hb, z'⟩ | ⟨hb, z'⟩
    · have R := ih σ' ow' s' Qa Ea Q E z' (ok.stp st g) (kv.stp st) (kx.stp st g)
      subst hb
      cases b <;> exact R
    · have R := kv _ _ σ' ow' s' z' st g rfl
      cases and <;> cases b <;> first | exact absurd rfl hb | exact wpAny_pure R
theorem BothBl.tr (hs : env.scope = sc) (ha : AOk A envs d) {and : Bool} {r : WBl} {xs : List Expr} (h : BothBl C d sc nms q and r xs) :
    Snd C A q env envs nms ρ (RB C) (allTrue (if and then .And else .Or) xs env) (r ρ) := by
  have step : ∀ (e : WE) (x : Expr) (xs : List Expr) (r : WBl), Both C d sc nms q e x → Snd C A q env envs nms ρ (RB C) (allTrue (if and then .And else .Or) xs env) (r ρ) → Snd C A q env envs nms ρ (RB C) (allTrue (if and then .And else .Or) (x :: xs) env) (blCons and e r ρ) := by
    intro e x xs r h ih σ ow s Qa Ea Q E w ok kv kx
    show wpAny _ _ (do
      match (if and then BoolOp.And else .Or), ← isTrue x env (eval x env) with
      | .And, false => pure false
      | .Or, true => pure true
      | _, _ => PySem.allTrue (if and then BoolOp.And else .Or) xs env) _ _ _
    refine wpAny_bind (h.tr A env envs ρ hs ha σ ow s _ Ea _ E w ok (fun v b σ' ow' s' z st g r => ?_) kx)
    have r' : b = v := r
    subst r'
    rcases brBl_cases z with ⟨hb, z'⟩ | ⟨hb, z'⟩
    · have R := ih σ' ow' s' Qa Ea Q E z' (ok.stp st g) (kv.stp st) (kx.stp st g)
      subst hb
      cases b <;> exact R
    · have R := kv _ _ σ' ow' s' z' st g rfl
      cases and <;> cases b <;> first | exact absurd rfl hb | exact wpAny_pure R
  induction h with
  | one h =>
    refine step _ _ _ _ h fun σ ow s Qa Ea Q E w ok kv kx => wpAny_pure (kv _ _ σ ow s w (Stp.refl _ _ _) ok.good ?_)
    cases and <;> rfl
  | cons h _ ih => exact step _ _ _ _ h ih
theorem kCh_cases {vb : AV} {r : AV → WBl} {ρ : Loc} {Q : Bool → St → Prop} {E : PE} {σ : St} {b : Bool} (z : kCh2 vb r ρ Q E σ b) : (b = false ∧ Q false σ) ∨ (b = true ∧ r vb ρ σ Q E) := by
  cases b
  · exact .inl ⟨rfl, z⟩
  · exact .inr ⟨rfl, z⟩
/-- a chain of comparisons -/
theorem BothC.ev (hs : env.scope = sc) (ha : AOk A envs d) {r : AV → WBl} {cs : List CmpOp} {xs : List Expr} (h : BothC C d sc nms q r cs xs) :
    ∀ (va : AV) (a : Value) (σ : St) (ow : Nat → Option Nat) (s : Shared) (Qa : Bool → St → Prop) (Ea : PE) (Q : Value → Shared → Prop) (E : Value → Shared → Prop), VR C (Zs σ ow (zss envs)) s.heap va a →
    r va ρ σ Qa Ea → Ok C A q env envs nms ρ σ ow s → KV C envs σ ow s (fun _ _ (b : Bool) (v : Value) => v = .bool b) Qa Q → KX C envs σ ow s Ea E →
    wpAny (model C.prog C.w) A (compareChain pos a cs (evalEach xs env)) Q E s := by
  induction h with
  | one hf h =>
    intro va a σ ow s Qa Ea Q E ra w ok kv kx
    refine chain_last (h.ev A env envs ρ hs ha σ ow s _ Ea _ E w ok (fun v av σ' ow' s' z st g r => ?_) kx)
    refine hf A envs σ' ow' s' _ _ _ _ _ _ _ ha.u64 g (st.vr ra) r z fun b t hb => kv _ b σ' ow' _ ?_ (st.tk t) (g.tk t) rfl
    rcases kCh_cases hb with ⟨rfl, z⟩ | ⟨rfl, z⟩ <;> exact z
  | cons hf h _ ih =>
    intro va a σ ow s Qa Ea Q E ra w ok kv kx
    refine chain_link (h.ev A env envs ρ hs ha σ ow s _ Ea _ E w ok (fun v av σ' ow' s' z st g r => ?_) kx)
    refine hf A envs σ' ow' s' _ _ _ _ _ _ _ ha.u64 g (st.vr ra) r z fun b t hb => ?_
    refine wpAny_truthy_bool ?_
    rcases kCh_cases hb with ⟨rfl, z⟩ | ⟨rfl, z⟩
    · exact kv _ false σ' ow' _ z (st.tk t) (g.tk t) rfl
    · exact ih _ _ σ' ow' _ Qa Ea Q E r z (ok.stp (st.tk t) (g.tk t)) (kv.stp (st.tk t)) (kx.stp (st.tk t) (g.tk t))
theorem BothC.tr (hs : env.scope = sc) (ha : AOk A envs d) {r : AV → WBl} {cs : List CmpOp} {xs : List Expr} (h : BothC C d sc nms q r cs xs) :
    ∀ (va : AV) (a : Value) (σ : St) (ow : Nat → Option Nat) (s : Shared) (Qa : Bool → St → Prop) (Ea : PE) (Q : Bool → Shared → Prop) (E : Value → Shared → Prop), VR C (Zs σ ow (zss envs)) s.heap va a →
    r va ρ σ Qa Ea → Ok C A q env envs nms ρ σ ow s → KV C envs σ ow s (RB C) Qa Q → KX C envs σ ow s Ea E →
    wpAny (model C.prog C.w) A (testChain pos a cs (evalEach xs env)) Q E s := by
  induction h with
  | one hf h =>
    intro va a σ ow s Qa Ea Q E ra w ok kv kx
    refine test_last (h.ev A env envs ρ hs ha σ ow s _ Ea _ E w ok (fun v av σ' ow' s' z st g r => ?_) kx)
    refine hf A envs σ' ow' s' _ _ _ _ _ _ _ ha.u64 g (st.vr ra) r z fun b t hb => wpAny_truthy_bool (kv _ b σ' ow' _ ?_ (st.tk t) (g.tk t) rfl)
    rcases kCh_cases hb with ⟨rfl, z⟩ | ⟨rfl, z⟩ <;> exact z
  | cons hf h _ ih =>
    intro va a σ ow s Qa Ea Q E ra w ok kv kx
    refine test_link (h.ev A env envs ρ hs ha σ ow s _ Ea _ E w ok (fun v av σ' ow' s' z st g r => ?_) kx)
    refine hf A envs σ' ow' s' _ _ _ _ _ _ _ ha.u64 g (st.vr ra) r z fun b t hb => ?_
    refine wpAny_truthy_bool ?_
    rcases kCh_cases hb with ⟨rfl, z⟩ | ⟨rfl, z⟩
    · exact kv _ false σ' ow' _ z (st.tk t) (g.tk t) rfl
    · exact ih _ _ σ' ow' _ Qa Ea Q E r z (ok.stp (st.tk t) (g.tk t)) (kv.stp (st.tk t)) (kx.stp (st.tk t) (g.tk t))
end
end Ap
end
section
set_option Elab.async false
set_option linter.unusedVariables false
set_option linter.unusedSimpArgs false
set_option linter.unusedSectionVars false
namespace Ap
open PySem PySem.Calls PyProof.Rows
section
variable {C : Cx} {T : Tabs} {P : Prg} {F : Calls} {d : Nat} {sc : Scope} {nms : List Str} {q : Bool}
theorem Both.var {i : Nat} {n : Str} {pos : Pos} (h1 : nms[i]? = some n) (h2 : (n == ("__debug__" : Str)) = false) (h3 : (n == ("__classdict__" : Str)) = false) : Both C d sc nms q (vVar i) (.Name n pos) :=
  .of rfl fun A env envs ρ hs ha σ ow s Qa Ea Q E w ok kv kx => by
    obtain ⟨v, e, w⟩ := lookV_some w
    exact var_snd h1 h2 h3 ok kv e w
theorem Both.none {k : Nat} {pos : Pos} : Both C d sc nms q (vC .none) (.Constant .none k pos) :=
  .of rfl fun A env envs ρ hs ha σ ow s Qa Ea Q E w ok kv kx => wpAny_Constant_none (kv.here ok.good w .none)
theorem Both.bool {b : Bool} {k : Nat} {pos : Pos} : Both C d sc nms q (vC (.bool b)) (.Constant (.bool b) k pos) :=
  .of rfl fun A env envs ρ hs ha σ ow s Qa Ea Q E w ok kv kx => wpAny_Constant_bool (kv.here ok.good w (.bool b))
theorem Both.int {i : Int} {k : Nat} {pos : Pos} : Both C d sc nms q (vC (.int i)) (.Constant (.int i) k pos) :=
  .of rfl fun A env envs ρ hs ha σ ow s Qa Ea Q E w ok kv kx => wpAny_Constant_int (kv.val ok.good _ w (.int i _))
theorem Both.str {x : Str} {k : Nat} {pos : Pos} (h : PyData.strOk x = true) : Both C d sc nms q (vC (.str x)) (.Constant (.str x) k pos) :=
  .of rfl fun A env envs ρ hs ha σ ow s Qa Ea Q E w ok kv kx => wpAny_Constant_str (kv.val ok.good _ w (.str x _ h))
theorem gl_of {x : Str} (h : gl sc x = true) : sc.names.lookup x = some .globalImplicit ∧ (x == ("__debug__" : Str)) = false ∧ x ≠ "__name__" := by
  unfold gl at h
  rw [Bool.and_eq_true, Bool.and_eq_true, beq_iff_eq, Bool.not_eq_true', Bool.not_eq_true'] at h
  exact ⟨h.1.1, h.1.2, fun e => by rw [e] at h; exact absurd h.2 (by decide)⟩
theorem Both.tup {es : WL} {xs : List Expr} {k : Nat} {pos : Pos} (h : BothL C d sc nms q es xs) (hl : xs.length ≤ 1000) : Both C d sc nms q (vTup es) (.Tuple xs k pos) :=
  .of rfl fun A env envs ρ hs ha σ ow s Qa Ea Q E w ok kv kx => by
    refine wpAny_Tuple (h.snd hs ha σ ow s _ Ea _ E w ok (fun vs avs σ' ow' s' z st g r => ?_) kx)
    have hv : vs.length ≤ 1000 := by rw [r.2]; exact hl
    refine ⟨by unfold sizeLine; omega, ?_⟩
    obtain ⟨hh, gg, dd, tt, oo⟩ := s'
    exact (kv.stp st).pushed g tt z (.tup ⟨by omega, _, Heap.get?_push_size _ rfl⟩ g.newZ (r.1.kp (fun _ _ e _ => Heap.get?_push_of_some _ e) (Zg.refl _ _)))
theorem Both.lst {own : Bool} {es : WL} {xs : List Expr} {pos : Pos} (h : BothL C d sc nms q es xs) (hl : xs.length ≤ 1000) : Both C d sc nms q (vLst own es) (.List xs pos) :=
  .of rfl fun A env envs ρ hs ha σ ow s Qa Ea Q E w ok kv kx => by
    refine wpAny_List (h.snd hs ha σ ow s _ Ea _ E w ok (fun vs avs σ' ow' s' z st g r => ?_) kx)
    have hv : vs.length ≤ 1000 := by rw [r.2]; exact hl
    refine ⟨by unfold sizeLine; omega, ?_⟩
    obtain ⟨hh, gg, dd, tt, oo⟩ := s'
    exact mkL_snd g (kv.stp st) tt (by omega) z r.1
theorem Both.bin {f : O2} {op : Operator} {a b : WE} {l r : Expr} {pos : Pos} (hf : BinSnd C op f) (ha' : Both C d sc nms q a l) (hb : Both C d sc nms q b r) : Both C d sc nms q (vO2 f a b) (.BinOp l op r pos) :=
  .of rfl fun A env envs ρ hs ha σ ow s Qa Ea Q E w ok kv kx => by
    refine wpAny_BinOp (ha'.ev A env envs ρ hs ha σ ow s _ Ea _ E w ok (fun va a σ' ow' s' z st g r => ?_) kx)
    refine hb.ev A env envs ρ hs ha σ' ow' s' _ Ea _ E z (ok.stp st g) (fun vb b σ'' ow'' s'' z' st' g' r' => ?_) (kx.stp st g)
    exact hf A envs σ'' ow'' s'' _ _ _ _ _ _ _ g' ((kv.stp st).stp st') (st'.vr r) r' z'
theorem Both.idx {f : O2} {e i : WE} {v sl : Expr} {pos : Pos} (hf : IdxSnd C f) (he : Both C d sc nms q e v) (hi : Both C d sc nms q i sl) (hp : ∀ o i, subscripted sl false o i = operate [o, i] (getItem o i)) : Both C d sc nms q (vO2 f e i) (.Subscript v sl pos) :=
  .of rfl fun A env envs ρ hs ha σ ow s Qa Ea Q E w ok kv kx => by
    refine Subscript_ (he.ev A env envs ρ hs ha σ ow s _ Ea _ E w ok (fun va a σ' ow' s' z st g r => ?_) kx)
    refine hi.ev A env envs ρ hs ha σ' ow' s' _ Ea _ E z (ok.stp st g) (fun vb b σ'' ow'' s'' z' st' g' r' => ?_) (kx.stp st g)
    exact hf A envs σ'' ow'' s'' _ _ _ _ _ _ _ _ _ hp g' ((kv.stp st).stp st') (st'.vr r) r' z'
theorem Both.slice {own : Bool} {lo hi : Nat} {li hj : Int} {e : WE} {v : Expr} {k1 k2 : Nat} {p1 p2 pp pos : Pos} (h1 : li = (lo : Int)) (h2 : hj = (hi : Int)) (he : Both C d sc nms q e v) :
    Both C d sc nms q (vO1 (oSl own lo hi) e) (.Subscript v (.Slice (some (.Constant (.int li) k1 p1)) (some (.Constant (.int hj) k2 p2)) Option.none pp) pos) :=
  .of rfl fun A env envs ρ hs ha σ ow s Qa Ea Q E w ok kv kx => by
    subst h1 h2
    refine Subscript_ (he.ev A env envs ρ hs ha σ ow s _ Ea _ E w ok (fun va a σ' ow' s' z st g r => ?_) kx)
    refine wpAny_Slice (wpAny_Constant_int (k := k1) (pos := p1) (wpAny_Constant_int (k := k2) (pos := p2) (wpAny_pure ?_)))
    exact slice_L (s := { s' with toks := s'.toks + 1 + 1 }) (g.tk _) ((kv.stp st).stp (Stp.toks _)) r z
theorem onI_of {f : Int → St → PQ → Prop} {v : AV} {σ : St} {Q : PQ} {Z : Nat → Prop} {h : Heap} {u : Value} (r : VR C Z h v u) (w : onI f v σ Q) : ∃ i t, u = .int i t ∧ f i σ Q := by
  cases r <;> first | exact False.elim w | exact ⟨_, _, rfl, w⟩
theorem Both.neg {a : WE} {x : Expr} {pos : Pos} (ha' : Both C d sc nms q a x) : Both C d sc nms q (vO1 oNeg a) (.UnaryOp .USub x pos) :=
  .of rfl fun A env envs ρ hs ha σ ow s Qa Ea Q E w ok kv kx => by
    refine wpAny_UnaryOp (ha'.ev A env envs ρ hs ha σ ow s _ Ea _ E w ok (fun va a σ' ow' s' z st g r => ?_) kx)
    obtain ⟨i, t, rfl, z⟩ := onI_of (f := fun x σ Q => Q (.int (-x)) σ) (Q := Qa) r z
    exact PyProof.Rows.neg_int ((kv.stp st).val g _ z (.int _ _))
theorem Both.not {a : WE} {x : Expr} {pos : Pos} (ha' : Both C d sc nms q a x) : Both C d sc nms q (vO1 oNot a) (.UnaryOp .Not x pos) where
  ev := fun A env envs ρ hs ha σ ow s Qa Ea Q E w ok kv kx => by
    refine wpAny_UnaryOp (ha'.ev A env envs ρ hs ha σ ow s _ Ea _ E w ok (fun va a σ' ow' s' z st g r => ?_) kx)
    obtain ⟨b, rfl, rfl, z⟩ := onT_of (R := fun b σ => Qa (.bool (!b)) σ) r z
    exact not_value (wpAny_truthy_bool ((kv.stp st).here g z (.bool _)))
  tr := fun A env envs ρ hs ha σ ow s Qa Ea Q E w ok kv kx => by
    rw [arm_isTrue_UnaryOp]
    have w' : wT a ρ σ (fun b σ' => Qa (!b) σ') Ea := w
    refine wpAny_bind (ha'.tr A env envs ρ hs ha σ ow s _ Ea _ E w' ok (fun v b σ' ow' s' z st g r => ?_) kx)
    have r' : b = v := r
    subst r'
    exact wpAny_pure (kv _ _ σ' ow' s' z st g rfl)
theorem Both.bl {and : Bool} {r : WBl} {xs : List Expr} {pos : Pos} (h : BothBl C d sc nms q and r xs) : Both C d sc nms q (vBl r) (.BoolOp (if and then .And else .Or) xs pos) where
  ev := fun A env envs ρ hs ha σ ow s Qa Ea Q E w ok kv kx => by
    rw [arm_eval_BoolOp]
    refine h.ev hs ha σ ow s _ Ea _ E w ok (fun v b σ' ow' s' z st g r => ?_) kx
    subst r
    exact kv _ _ σ' ow' s' z st g (.bool b)
  tr := fun A env envs ρ hs ha σ ow s Qa Ea Q E w ok kv kx => by
    rw [arm_isTrue_BoolOp]
    exact h.tr hs ha σ ow s _ Ea _ E w ok kv kx
theorem Both.and {r : WBl} {xs : List Expr} {pos : Pos} (h : BothBl C d sc nms q true r xs) : Both C d sc nms q (vBl r) (.BoolOp .And xs pos) := Both.bl (and := true) h
theorem Both.or {r : WBl} {xs : List Expr} {pos : Pos} (h : BothBl C d sc nms q false r xs) : Both C d sc nms q (vBl r) (.BoolOp .Or xs pos) := Both.bl (and := false) h
theorem Both.cmp {a : WE} {l : Expr} {r : AV → WBl} {cs : List CmpOp} {xs : List Expr} {pos : Pos} (ha' : Both C d sc nms q a l) (h : BothC C d sc nms q r cs xs) (hm : lastMarks cs xs = false) : Both C d sc nms q (vCmp a r) (.Compare l cs xs pos) where
  ev := fun A env envs ρ hs ha σ ow s Qa Ea Q E w ok kv kx => by
    rw [arm_eval_Compare, markedEach_of_false _ _ _ hm]
    refine wpAny_bind (ha'.ev A env envs ρ hs ha σ ow s _ Ea _ E w ok (fun v av σ' ow' s' z st g r => ?_) kx)
    refine h.ev hs ha _ _ σ' ow' s' _ Ea _ E r z (ok.stp st g) (fun v b σ'' ow'' s'' z' st' g' r' => ?_) (kx.stp st g)
    subst r'
    exact kv _ _ σ'' ow'' s'' z' (st.trans st') g' (.bool b)
  tr := fun A env envs ρ hs ha σ ow s Qa Ea Q E w ok kv kx => by
    rw [arm_isTrue_Compare, markedEach_of_false _ _ _ hm]
    refine wpAny_bind (ha'.ev A env envs ρ hs ha σ ow s _ Ea _ E w ok (fun v av σ' ow' s' z st g r => ?_) kx)
    exact h.tr hs ha _ _ σ' ow' s' _ Ea _ E r z (ok.stp st g) (kv.stp st) (kx.stp st g)
theorem Both.attr (X : CxOk C T P) {e : WE} {c f : Nat} {v : Expr} {n : Str} {pos : Pos} (he : Both C d sc nms q e v) (hb : plainBase v = true) (hn : T.atN[f]? = some n) (hm : ∀ ci, P.cls[c]? = some ci → ci.meths.lookup f = Option.none) :
    Both C d sc nms q (vO1 (oAttr c f) e) (.Attribute v n pos) :=
  .of rfl fun A env envs ρ hs ha σ ow s Qa Ea Q E w ok kv kx => by
    refine Attribute_any_ (he.ev A env envs ρ hs ha σ ow s _ Ea _ E w ok (fun v av σ' ow' s' z st g r => attr_snd X hn hm g (kv.stp st) r z) kx) ?_
    rw [arm_eval_Attribute, base_plain hb]
theorem HOk.call {A : Around} {f : Nat} {Z : Nat → Prop} {h : Heap} (x : HOk A q Z h) (hq : (!q || qOf P f) = true) : HOk A (qOf P f) Z h := by
  rcases x with x | ⟨e, r⟩
  · exact .inl x
  · subst e
    have : qOf P f = true := hq
    rw [this]
    exact .inr ⟨rfl, r⟩
theorem HOk.none {A : Around} {Z : Nat → Prop} {h : Heap} (x : HOk A false Z h) : A.handled = Option.none := x.elim id fun y => absurd y.1 Bool.false_ne_true
/-- a call of a def, the arguments behind those that are bound -/
theorem BothL.callF (X : CxOk C T P) (hF : SndF C P d F) {A : Around} {env : Env} {envs : Vo} {ρ : Loc} {f : Nat} {es : WL} {xs : List Expr} {pos : Pos} (h : BothL C d sc nms q es xs) (hs : env.scope = sc) (ha : AOk A envs d) (hlt : f < T.fnN.length) (hq : (!q || qOf P f) = true)
    {σ : St} {ow : Nat → Option Nat} {s : Shared} {Qa : PQ} {Ea : PE} {Q : Value → Shared → Prop} {E : Value → Shared → Prop} {a0 : List AV} {v0 : List Value} (r0 : VRs C (Zs σ ow (zss envs)) s.heap a0 v0)
    (w : es ρ σ (fun vs σ' => F f (a0 ++ vs) σ' Qa Ea) Ea) (ok : Ok C A q env envs nms ρ σ ow s) (kv : KV C envs σ ow s (RV C) Qa Q) (kx : KX C envs σ ow s Ea E) :
    wpAny (model C.prog C.w) A (callWith pos (.ref (C.fnA f)) v0 (backTo pos (starEach xs env)) []) Q E s := by
  obtain ⟨oI, fd, f1, f2, f3⟩ := X.fnF f hlt
  refine callWith_function (o := oI) (fd := fd) (evalArgs_any h.stars (h.snd hs ha σ ow s _ Ea _ E w ok (fun vs avs σ' ow' s' z st g r => ?_) kx))
  exact ⟨⟨g.stays _ _ f1, f3⟩, call_snd hF z g ha.toF ((ok.hnd.stp st).call hq) (VRs.append r.1 (st.vrs r0)) (kv.stp st) (kx.stp st g)⟩
theorem Both.call (X : CxOk C T P) (hF : SndF C P d F) {f : Nat} {n : Str} {es : WL} {xs : List Expr} {np pos : Pos} (h : BothL C d sc nms q es xs) (h1 : T.fnN[f]? = some n) (h2 : n ≠ Str.empty) (h3 : gl sc n = true) (hq : (!q || qOf P f) = true) :
    Both C d sc nms q (vCall F f es) (.Call (.Name n np) xs [] pos) :=
  .of rfl fun A env envs ρ hs ha σ ow s Qa Ea Q E w ok kv kx => by
    obtain ⟨g1, g2, g3⟩ := gl_of h3
    refine wpAny_Call_ofName (gname X (by unfold Env.kindOf; rw [hs]; exact g1) g2 ok (X.fnN f n h1 h2) ?_)
    exact h.callF X hF hs ha (List.getElem?_eq_some_iff.mp h1).1 hq (a0 := []) (v0 := []) .nil w ok kv kx
theorem callWith_cls {M : Model} {A : Around} {E : Value → Shared → Prop} {s : Shared} {pos : Pos} {cc : Addr} {args : List (Bool × Sem Value)} {Q : Value → Shared → Prop} (hplain : args.any (·.1) = false)
    (h : wpAny M A (evalArgs (.ref cc) true args []) (fun x s₁ => (∃ nm q N bs bm hdct sn sub ab col dd k0 k1 k2 k3 k5 newId, s₁.heap.get? cc = some (excClassObj nm q cc N bs bm hdct sn sub ab col dd k0 k1 k2 k3 k5 newId)) ∧ wpAny M A (call (.ref cc) x.pos x.kw) Q E s₁) E s) :
    wpAny M A (callWith pos (.ref cc) [] args []) Q E s := by
  unfold callWith
  refine wpAny_bind (wpAny_holding (wpAny_mono h (fun a s₁ h₁ => wpAny_bind (wpAny_standAt ?_)) fun _ _ x => x))
  obtain ⟨⟨nm, q, N, bs, bm, hdct, sn, sub, ab, col, dd, k0, k1, k2, k3, k5, newId, hC⟩, h₁⟩ := h₁
  obtain ⟨hh, gg, dd', tt, oo⟩ := s₁
  simp only [hplain, List.any_nil, Bool.or_false]
  refine wpAny_bind (wpAny_keeperOf_exc hC ?_)
  exact wpAny_bind (wpAny_mono h₁ (fun r s₂ hr => wpAny_bind (wpAny_holding (wpAny_point (wpAny_pure hr)))) fun _ _ x => x)
theorem Both.new (X : CxOk C T P) (hF : SndF C P d F) {c f : Nat} {ci : ClsI} {n : Str} {es : WL} {xs : List Expr} {np pos : Pos} (h : BothL C d sc nms false es xs) (h1 : T.clsN[c]? = some n) (h3 : gl sc n = true) (hc : P.cls[c]? = some ci) (hi : ci.init = some f) (hlt : f < T.fnN.length) :
    Both C d sc nms false (vNew F c f es) (.Call (.Name n np) xs [] pos) :=
  .of rfl fun A env envs ρ hs ha σ ow s Qa Ea Q E w ok kv kx => by
    obtain ⟨g1, g2, g3⟩ := gl_of h3
    refine wpAny_Call_ofName (gname X (by unfold Env.kindOf; rw [hs]; exact g1) g2 ok (X.clsN c n h1) ?_)
    refine callWith_cls (starEach_any h.stars) (evalArgs_any h.stars (h.snd hs ha σ ow s _ Ea _ E w ok (fun vs avs σ' ow' s' z st g r => ?_) kx))
    have hci := X.ics c ci hc (by rw [hi]; exact Option.some_ne_none _)
    obtain ⟨ci', q1, q2⟩ := X.cls c hci
    obtain ⟨nm, q, N, bs, sn, sub, col, dd, k0, k1, k2, k3, k5, mN, c1, _⟩ := q2.ex
    exact ⟨⟨_, _, _, _, _, _, _, _, _, _, _, _, _, _, _, _, _, g.stays _ _ c1⟩, new_snd X hF hc hi hlt z g ha (.inl (ok.hnd.none)) r.1 (kv.stp st) (kx.stp st g)⟩
theorem lookF_none_key {fs : List (Nat × AV)} {m : Nat} (h : lookF fs m = Option.none) : m ∉ fs.map (·.1) := by
  intro hm
  obtain ⟨p, hp, e⟩ := List.mem_map.mp hm
  unfold lookF at h
  rw [Option.map_eq_none_iff, List.find?_eq_none] at h
  exact h p hp (decide_eq_true e)
theorem Both.meth (X : CxOk C T P) (hF : SndF C P d F) {e : WE} {c m f : Nat} {ci : ClsI} {n : Str} {o : Expr} {es : WL} {xs : List Expr} {apos pos : Pos} (he : Both C d sc nms false e o) (h : BothL C d sc nms false es xs) (hb : plainBase o = true) (hn : T.atN[m]? = some n)
    (hline : (apos.endLine == pos.line) = true) (hlen : xs.length < 20) (hc : P.cls[c]? = some ci) (hf : ci.meths.lookup m = some f) (hlt : f < T.fnN.length) :
    Both C d sc nms false (vMeth F c m f e es) (.Call (.Attribute o n apos) xs [] pos) :=
  .of rfl fun A env envs ρ hs ha σ ow s Qa Ea Q E w ok kv kx => by
    rw [arm_eval_Call, base_plain hb]
    refine wpAny_bind (he.ev A env envs ρ hs ha σ ow s _ Ea _ E w ok (fun v av σ' ow' s' z st g r => ?_) kx)
    refine wpAny_bind (wpAny_standAt ?_)
    obtain ⟨a, fs, rfl, hσ, hnone, z⟩ := z
    cases r
    obtain ⟨dx, mA, I, _, fm, _, hcs⟩ := ORep.inst g hσ
    obtain ⟨ci', q1, q2⟩ := X.cls c hcs
    rw [hc] at q1
    cases q1
    obtain ⟨nm, q, N, bs, sn, sub, col, dd, k0, k1, k2, k3, k5, mN, c1, c2, c3, c4, c5, c6, c7, c8⟩ := q2.ex
    obtain ⟨en, lt⟩ := X.nm_lt hn
    obtain ⟨oI, fd, f1, f2, f3⟩ := X.fnF f hlt
    have hform : methodCallForm (xs.length + ([] : List Keyword).length) (backTo pos (starEach xs env)) (backToKw pos (keywordEach [] env)) = true := by
      unfold methodCallForm
      rw [starEach_all h.stars]
      have e1 : backToKw pos (keywordEach [] env) = [] := rfl
      rw [e1]
      simp
      omega
    have hpos : methodCallPos true o env apos pos = pure pos := by unfold methodCallPos; simp [hline]
    have nsh : mA n = Option.none := by
      cases z' : mA n with
      | none => rfl
      | some u =>
        have hmem := fm.2 n (by rw [z']; exact Option.some_ne_none _)
        obtain ⟨p, hp, ep⟩ := List.mem_map.mp hmem
        have hf' : p.1 < T.atN.length := by
          apply Decidable.byContradiction
          intro hn'
          rw [X.nm, List.getD_eq_getElem?_getD, List.getElem?_eq_none (by omega)] at ep
          exact X.ne (by rw [show Str.empty = n from ep]; exact X.mem hn)
        have : p.1 = m := by
          rw [← en, X.nm, X.nm, List.getD_eq_getElem?_getD, List.getD_eq_getElem?_getD, List.getElem?_eq_getElem hf', List.getElem?_eq_getElem lt] at ep
          exact (List.getElem_inj X.inj).mp ep
        exact absurd (List.mem_map.mpr ⟨p, hp, this⟩) (lookF_none_key hnone)
    unfold methodCall
    rw [hform]
    obtain ⟨hh, gg, dd', tt, oo⟩ := s'
    refine wpAny_bind (wpAny_holding (method_of (g.stays _ _ c1) (c2.keeps g.stays) c3 c4 (by rw [← en]; exact c7 m f hf) (g.stays _ _ f1) f2 (X.objN n (X.mem hn)) I nsh ?_))
    refine wpAny_bind (wpAny_of_eq hpos ?_)
    exact h.callF X hF hs ha hlt rfl (a0 := [.obj _]) (v0 := [.ref _]) (.cons (.obj _) .nil) z (ok.stp st g) (kv.stp st) (kx.stp st g)
/-- a built-in by its name -/
structure BiOk (C : Cx) (q : Bool) (n : Str) (f : ON) : Prop where
  ex : ∃ fv, bootBuiltins n = some fv ∧ ((∃ id, fv = .builtin id) ∨ ∃ T, fv = .type T) ∧ BiSnd C q fv f
theorem Both.bi (X : CxOk C T P) {q' : Bool} {f : ON} {n : Str} {es : WL} {xs : List Expr} {np pos : Pos} (hb : BiOk C q' n f) (h : BothL C d sc nms q es xs) (hn : n ∈ T.bltN) (h3 : gl sc n = true) (hq : q' = false → q = false) :
    Both C d sc nms q (vON f es) (.Call (.Name n np) xs [] pos) :=
  .of rfl fun A env envs ρ hs ha σ ow s Qa Ea Q E w ok kv kx => by
    obtain ⟨fv, hboot, hk, hS⟩ := hb.ex
    obtain ⟨g1, g2, g3⟩ := gl_of h3
    refine wpAny_Call_ofName (bname X (by unfold Env.kindOf; rw [hs]; exact g1) g2 ok hn g3 hboot ?_)
    have fin : wpAny (model C.prog C.w) A (evalArgs fv true (backTo pos (starEach xs env)) []) (fun x s₁ => wpAny (model C.prog C.w) A (PySem.call fv ([] ++ x.pos) x.kw) Q E s₁) E s := by
      refine evalArgs_any h.stars (h.snd hs ha σ ow s _ Ea _ E w ok (fun vs avs σ' ow' s' z st g r => ?_) kx)
      refine hS A envs σ' ow' s' _ _ _ _ _ (fun e => ?_) g (kv.stp st) r.1 z
      have := hq e
      subst this
      exact ok.hnd.none
    rcases hk with ⟨id, rfl⟩ | ⟨T, rfl⟩
    · exact callWith_builtin (starEach_any h.stars) fin
    · exact PyProof.Rows.callWith_type (starEach_any h.stars) fin
theorem Both.isiG (X : CxOk C T P) {o : O1} {e : WE} {y : Expr} {n z : Str} {np zp pos : Pos} {tv : Value} (he : Both C d sc nms q e y) (hst : notStar y = true) (hn : n = ("isinstance" : Str)) (hb : n ∈ T.bltN) (h3 : gl sc n = true)
    (hz : ∀ A env envs ρ σ ow s (Q : Value → Shared → Prop) E, env.scope = sc → Ok C A q env envs nms ρ σ ow s → Q tv s → wpAny (model C.prog C.w) A (eval (.Name z zp) env) Q E s)
    (hi : ∀ (A : Around) envs σ ow s (Qa : PQ) (Q : Value → Shared → Prop) E v u, Good C envs σ ow s → KV C envs σ ow s (RV C) Qa Q → VR C (Zs σ ow (zss envs)) s.heap v u → o v σ Qa → wpAny (model C.prog C.w) A (PySem.call (.builtin "isinstance") [u, tv]) Q E s) :
    Both C d sc nms q (vO1 o e) (.Call (.Name n np) [y, .Name z zp] [] pos) :=
  .of rfl fun A env envs ρ hs ha σ ow s Qa Ea Q E w ok kv kx => by
    obtain ⟨g1, g2, g3⟩ := gl_of h3
    refine wpAny_Call_ofName (bname X (by unfold Env.kindOf; rw [hs]; exact g1) g2 ok hb g3 (by rw [hn]; exact boot_isinstance) ?_)
    have hst' : [y, Expr.Name z zp].all notStar = true := by rw [List.all_cons, hst]; rfl
    refine callWith_builtin (starEach_any hst') (evalArgs_any hst' ?_)
    rw [starEach_cons hst]
    refine spliced_cons (he.ev A env envs ρ hs ha σ ow s _ Ea _ E w ok (fun v av σ' ow' s' w' st g r => ?_) kx)
    rw [starEach_cons (show notStar (Expr.Name z zp) = true from rfl)]
    refine spliced_cons (hz A env envs ρ σ' ow' s' _ _ hs (ok.stp st g) (spliced_nil ?_))
    exact hi A envs σ' ow' s' _ _ _ _ _ g (kv.stp st) r w'
theorem Both.isi (X : CxOk C T P) {t : Ty} {e : WE} {y : Expr} {n z : Str} {np zp pos : Pos} (he : Both C d sc nms q e y) (hst : notStar y = true) (hn : n = ("isinstance" : Str)) (hb : n ∈ T.bltN) (h3 : gl sc n = true) (hz : bootBuiltins z = some (tyV t)) (hb' : z ∈ T.bltN) (h3' : gl sc z = true) :
    Both C d sc nms q (vO1 (oIsi t) e) (.Call (.Name n np) [y, .Name z zp] [] pos) :=
  .isiG X he hst hn hb h3 (fun A env envs ρ σ ow s Q E hs ok hq => by
    obtain ⟨g1, g2, g3⟩ := gl_of h3'
    exact bname X (by unfold Env.kindOf; rw [hs]; exact g1) g2 ok hb' g3 hz hq) fun A envs σ ow s Qa Q E v u g k r w => isi_snd r w fun tk z => k.val g tk z (.bool _)
theorem Both.isiV (X : CxOk C T P) {e : WE} {y : Expr} {n z : Str} {np zp pos : Pos} (he : Both C d sc nms q e y) (hst : notStar y = true) (hn : n = ("isinstance" : Str)) (hb : n ∈ T.bltN) (h3 : gl sc n = true) (hz : bootBuiltins z = some (.type "ValueError")) (hb' : z ∈ T.bltN) (h3' : gl sc z = true) :
    Both C d sc nms q (vO1 oIsiV e) (.Call (.Name n np) [y, .Name z zp] [] pos) :=
  .isiG X he hst hn hb h3 (fun A env envs ρ σ ow s Q E hs ok hq => by
    obtain ⟨g1, g2, g3⟩ := gl_of h3'
    exact bname X (by unfold Env.kindOf; rw [hs]; exact g1) g2 ok hb' g3 hz hq) fun A envs σ ow s Qa Q E v u g k r w => by
    obtain ⟨c, rfl, w⟩ := w
    cases r with | exn at_ cls dt dn cx off =>
    exact X.isiV _ cx A Q E s _ _ _ g.stays at_ cls dt dn fun tk => k.val g tk w (.bool _)
theorem Both.isiX (X : CxOk C T P) {dd : Nat} {e : WE} {y : Expr} {n z : Str} {np zp pos : Pos} (he : Both C d sc nms q e y) (hst : notStar y = true) (hn : n = ("isinstance" : Str)) (hb : n ∈ T.bltN) (h3 : gl sc n = true) (hz : T.clsN[dd]? = some z) (h3' : gl sc z = true) {cj : ClsI} (hc : P.cls[dd]? = some cj) (hi : cj.init = Option.none) :
    Both C d sc nms q (vO1 (oIsiX P.cls dd) e) (.Call (.Name n np) [y, .Name z zp] [] pos) :=
  .isiG X he hst hn hb h3 (fun A env envs ρ σ ow s Q E hs ok hq => by
    obtain ⟨g1, g2, g3⟩ := gl_of h3'
    exact gname X (by unfold Env.kindOf; rw [hs]; exact g1) g2 ok (X.clsN _ z hz) hq) fun A envs σ ow s Qa Q E v u g k r w => by
    obtain ⟨c, ci, rfl, hci, w⟩ := w
    cases r with | exn at_ cls dt dn cx off =>
    exact X.isiC _ cx _ (X.xcs dd cj hc hi) _ hci A Q E s _ _ _ g.stays at_ cls dt dn fun tk => k.val g tk w (.bool _)
end
end Ap
end
section
set_option Elab.async false
set_option linter.unusedVariables false
set_option linter.unusedSimpArgs false
namespace Ap
open PySem PySem.Calls PyProof.Rows
structure BothS (C : Cx) (d : Nat) (sc : Scope) (nms : List Str) (q : Bool) (w : WS) (x : Stmt) : Prop where
  snd : ∀ A env V outer, FEnv env nms V outer → env.scope = sc → AOk A V d → SndS C A q env V nms (exec x env) w
structure BothB (C : Cx) (d : Nat) (sc : Scope) (nms : List Str) (q : Bool) (w : WS) (x : List Stmt) : Prop where
  snd : ∀ A env V outer, FEnv env nms V outer → env.scope = sc → AOk A V d → SndS C A q env V nms (execs x env) w
/-- the value is no comprehension: stores and loads stand in their order -/
def noComp : Expr → Bool
  | .ListComp .. => false
  | .SetComp .. => false
  | .DictComp .. => false
  | _ => true
theorem swaps_no {e : Expr} {t : Option Expr} {line : Nat} {env : Env} (h : noComp e = true) : swapsWith e t line env = pure false := by
  cases e <;> first | rfl | exact Bool.noConfusion h
section
variable {C : Cx} {T : Tabs} {P : Prg} {F : Calls} {d : Nat} {sc : Scope} {nms : List Str} {q : Bool}
theorem BothB.nil : BothB C d sc nms q bNil [] where
  snd := fun A env V outer hF hs ha ρ σ ow s Qa Ea Q E w k ks kx => wpAny_execs_nil (ks _ _ ρ σ ow s w (SStp.refl _ _ _ _) k .next)
theorem BothB.cons {i is : WS} {x : Stmt} {xs : List Stmt} (h : BothS C d sc nms q i x) (hr : BothB C d sc nms q is xs) : BothB C d sc nms q (bCons i is) (x :: xs) where
  snd := fun A env V outer hF hs ha ρ σ ow s Qa Ea Q E w k ks kx => by
    refine wpAny_execs_cons (h.snd A env V outer hF hs ha ρ σ ow s _ Ea _ E w k (fun fl af ρ' σ' ow' s' z st k' r => ?_) kx)
    cases r with
    | next => exact hr.snd A env V outer hF hs ha ρ' σ' ow' s' _ Ea _ E z k' (ks.stp st) (kx.stp st k'.ok.good)
    | ret r => exact ks _ _ ρ' σ' ow' s' z st k' (.ret r)
theorem BothS.assign {x : Nat} {n : Str} {e : WE} {v : Expr} {np pos : Pos} (he : Both C d sc nms q e v) (hc : noComp v = true) (hn : nms[x]? = some n) : BothS C d sc nms q (sAssign x e) (.Assign [.Name n np] v pos) where
  snd := fun A env V outer hF hs ha ρ σ ow s Qa Ea Q E w k ks kx => by
    refine wpAny_Assign_Name (he.ev A env V ρ hs ha σ ow s _ _ _ E w k.ok (fun u av σ' ow' s' z st g r => ?_) (kx.toE hF k)) (swaps_no hc)
    refine store_snd hF hn (k.stp hF st g) r fun s'' st' k' => ?_
    exact ks _ _ _ σ' ow' s'' z (st.toS.trans st') k' .next
theorem BothS.setAttr (X : CxOk C T P) {o e : WE} {c f : Nat} {ov v : Expr} {n : Str} {np pos : Pos} (ho : Both C d sc nms q o ov) (he : Both C d sc nms q e v) (hc : noComp v = true) (hn : T.atN[f]? = some n) (hm : P.cls.all (fun ci => (ci.meths.lookup f).isNone) = true) :
    BothS C d sc nms q (sSetAttr o c f e) (.Assign [.Attribute ov n np] v pos) where
  snd := fun A env V outer hF hs ha ρ σ ow s Qa Ea Q E w k ks kx => by
    refine plainObj_wpAny_Assign_Attribute (he.ev A env V ρ hs ha σ ow s _ _ _ E w k.ok (fun u av σ' ow' s' z st g r => ?_) (kx.toE hF k)) (swaps_no hc)
    have k' := k.stp hF st g
    refine ho.ev A env V ρ hs ha σ' ow' s' _ _ _ E z k'.ok (fun u2 av2 σ₂ ow₂ s₂ z₂ st₂ g₂ r₂ => ?_) ((kx.stp st.toS g).toE hF k')
    obtain ⟨a, fs, rfl, hσ, hl, z₂⟩ := z₂
    cases r₂
    refine setA_snd X hn hm g₂ hσ hl (st₂.vr r) fun s₃ st₃ g₃ => ?_
    exact ks _ _ ρ _ ow₂ s₃ z₂ ((st.trans st₂).trans st₃).toS ((k'.stp hF st₂ g₂).stp hF st₃ g₃) .next
theorem BothS.ret {e : WE} {v : Expr} {pos : Pos} (he : Both C d sc nms q e v) : BothS C d sc nms q (sRet e) (.Return (some v) pos) where
  snd := fun A env V outer hF hs ha ρ σ ow s Qa Ea Q E w k ks kx => by
    refine wpAny_Return_some (he.ev A env V ρ hs ha σ ow s _ _ _ E w k.ok (fun u av σ' ow' s' z st g r => ?_) (kx.toE hF k))
    exact ks _ _ ρ σ' ow' s' z st.toS (k.stp hF st g) (.ret r)
theorem BothS.ret0 {pos : Pos} : BothS C d sc nms q sRet0 (.Return Option.none pos) where
  snd := fun A env V outer hF hs ha ρ σ ow s Qa Ea Q E w k ks kx => by
    exact wpAny_Return_none (ks _ _ ρ σ ow s w (SStp.refl _ _ _ _) k (.ret .none))
theorem BothS.pass {pos : Pos} : BothS C d sc nms q sPass (.Pass pos) where
  snd := fun A env V outer hF hs ha ρ σ ow s Qa Ea Q E w k ks kx => by
    exact wpAny_Pass (ks _ _ ρ σ ow s w (SStp.refl _ _ _ _) k .next)
theorem BothS.ite {c : WE} {a b : WS} {y : Expr} {xs ys : List Stmt} {pos : Pos} (hc : Both C d sc nms q c y) (h1 : BothB C d sc nms q a xs) (h2 : BothB C d sc nms q b ys) : BothS C d sc nms q (sIte c a b) (.If y xs ys pos) where
  snd := fun A env V outer hF hs ha ρ σ ow s Qa Ea Q E w k ks kx => by
    refine wpAny_If (hc.tr A env V ρ hs ha σ ow s _ _ _ E w k.ok (fun v t σ' ow' s' z st g r => ?_) (kx.toE hF k))
    have r' : t = v := r
    subst r'
    have k' := k.stp hF st g
    cases t with
    | true => exact h1.snd A env V outer hF hs ha ρ σ' ow' s' _ Ea _ E z k' (ks.stp st.toS) (kx.stp st.toS g)
    | false => exact h2.snd A env V outer hF hs ha ρ σ' ow' s' _ Ea _ E z k' (ks.stp st.toS) (kx.stp st.toS g)
theorem Expr_any {M : Program} {w : World} {A : Around} {E : Value → Shared → Prop} {s : Shared} {env : Env} {e : Expr} {pos : Pos} {Q : Flow → Shared → Prop} (hi : interactive env = false) (hc : noComp e = true) (h : wpAny (model M w) A (eval e env) (fun _ s' => Q .next s') E s) :
    wpAny (model M w) A (exec (.Expr e pos) env) Q E s := by
  rw [arm_exec_Expr]
  refine wpAny_bind (wpAny_standAt ?_)
  rw [hi]
  rw [if_neg (by decide), swaps_no hc]
  refine wpAny_bind (wpAny_pure ?_)
  rw [if_neg (by decide)]
  refine wpAny_bind (wpAny_mono h (fun v s' hq => ?_) fun _ _ x => x)
  unfold dropValue
  split
  · exact wpAny_pure hq
  · exact wpAny_bind (wpAny_standAt (wpAny_bind (wpAny_runValue (codeAny_builtin entry_let_go (show wpAny _ _ (ret .none) _ _ _ from wpAny_pure (wpAny_pure hq))))))
  · exact wpAny_pure hq
theorem BothS.expr {e : WE} {v : Expr} {pos : Pos} (he : Both C d sc nms q e v) (hc : noComp v = true) : BothS C d sc nms q (sExpr e) (.Expr v pos) where
  snd := fun A env V outer hF hs ha ρ σ ow s Qa Ea Q E w k ks kx => by
    refine Expr_any (by unfold interactive; rw [hF.kind]; rfl) hc (he.ev A env V ρ hs ha σ ow s _ _ _ E w k.ok (fun u av σ' ow' s' z st g r => ?_) (kx.toE hF k))
    exact ks _ _ ρ σ' ow' s' z st.toS (k.stp hF st g) .next
/-- raise -/
theorem BothS.rais (X : CxOk C T P) {c : Nat} {n : Str} {m : Str} {kk : Nat} {np cp mp pos : Pos} (hn : T.clsN[c]? = some n) (hg : gl sc n = true) (hx : c ∈ C.xcs) : BothS C d sc nms false (sRais c) (.Raise (some (.Call (.Name n np) [.Constant (.str m) kk mp] [] cp)) Option.none pos) where
  snd := fun A env V outer hF hs ha ρ σ ow s Qa Ea Q E w k ks kx => by
    obtain ⟨nm, q, N, bs, bm, bmB, hdct, sn, sub, ab, col, dd, k0, k1, k2, k3, k5, B, newId, initId, mN, c1, c2, c3, c4, c5, c6⟩ := (X.exc c hx).ex
    obtain ⟨g1, g2, g3⟩ := gl_of hg
    refine wpAny_Raise_call_subT (nm := nm) (q := q) (N := N) (bs := bs) (hdct := hdct) (sn := sn) (sub := sub) (ab := ab) (col := col) (dd := dd) (k0 := k0) (k1 := k1) (k2 := k2) (k3 := k3) (k5 := k5) c5 c6 k.ok.hnd.none rfl c3 (gname X (by unfold Env.kindOf; rw [hs]; exact g1) g2 k.ok (X.clsN c n hn) ⟨rfl, ?_⟩)
    refine evalArgs_any rfl ?_
    rw [starEach_cons rfl]
    refine spliced_cons (wpAny_Constant_str (k := kk) (pos := mp) (spliced_nil ?_))
    have G := k.ok.good.tk (s.toks + 1)
    refine ⟨rfl, by show 1 ≤ sizeLine; decide, G.stays _ _ c1, c2.keeps G.stays, ?_, fun h' e hm => ?_⟩
    · exact c4.keeps G.stays
    · obtain ⟨t, ht, hn1, hn2⟩ := hm.there
      have gr : ∀ b o, s.heap.get? b = some o → h'.get? b = some o := hm.keeps
      have st : Stp (frs V) (Own σ ow) (Own σ ow) s { s with heap := h', toks := s.toks + 1 } := Stp.ext gr _
      have g' : Good C V σ ow { s with heap := h', toks := s.toks + 1 } := k.ok.good.ext gr _
      have nz : ¬ Zs σ ow (zss V) e := by
        rintro (z | z)
        · obtain ⟨o, y⟩ := k.ok.good.live z
          have hnew : s.heap.get? e = Option.none := hm.new
          rw [hnew] at y; cases y
        · obtain ⟨_, o, y⟩ := k.ok.good.mem _ z
          have hnew : s.heap.get? e = Option.none := hm.new
          rw [hnew] at y; cases y
      exact kx e c ρ σ ow _ w st.toS (k.stp hF st g') ⟨⟨hm.new, nz, hx⟩, Option.none, ⟨_, _, _, ht, rfl, rfl, rfl, rfl, rfl, rfl⟩, fun T fl z => by cases z⟩
/-- for, over a list -/
def notSet : Expr → Bool
  | .Set .. => false
  | _ => true
theorem folded_not {e : Expr} {env : Env} {x : Value} (h : notSet e = true) : foldedSetIterable e env x = pure x := by
  cases e <;> first | rfl | exact Bool.noConfusion h
theorem iter_list {prog : Program} {w : World} {A : Around} {E : Value → Shared → Prop} {s : Shared} {l : Addr} {vs : List Value} {Q : Value → Shared → Prop} (li : IsL s.heap l vs)
    (h : ∀ h', (∀ b o, s.heap.get? b = some o → h'.get? b = some o) → h'.IsListIter s.heap.objs.size l 0 → Q (.ref s.heap.objs.size) { s with heap := h' }) : wpAny (model prog w) A (pyIter (.ref l)) Q E s :=
  wpAny_pyIter_list li.isList (h _ (fun _ _ e => Heap.get?_push_of_some _ e) ⟨_, Heap.get?_push_size _ rfl, rfl, rfl⟩)
theorem seqOf_isL {a : AV} {v : Value} {xs : List AV} {V : Vo} {σ : St} {ow : Nat → Option Nat} {s : Shared} (g : Good C V σ ow s) (r : VR C (Zs σ ow (zss V)) s.heap a v) (e : seqOf σ a = some xs) :
    ∃ l vs, v = .ref l ∧ IsL s.heap l vs ∧ VRs C (Zs σ ow (zss V)) s.heap xs vs ∧ (a = .ilist xs ∧ (¬ Zs σ ow (zss V) l) ∨ a = .obj l ∧ σ l = some (.list xs)) := by
  cases r with
  | ilist at_ off r => cases e; exact ⟨_, _, rfl, at_, r, .inl ⟨rfl, off⟩⟩
  | obj a =>
    obtain ⟨vs, li, rr⟩ := g.store _ _ (seqOf_obj e)
    exact ⟨_, vs, rfl, li, rr, .inr ⟨rfl, seqOf_obj e⟩⟩
  | _ => cases e
theorem Heap.fresh (h : Heap) : h.get? h.objs.size = Option.none := by
  cases e : h.get? h.objs.size with
  | none => rfl
  | some o => exact absurd (Heap.lt_size e) (Nat.lt_irrefl _)
theorem BothS.forL {e : WE} {v : Expr} {x : Nat} {n : Str} {body : WS} {xs : List Stmt} {np pos : Pos} (he : Both C d sc nms q e v) (hB : BothB C d sc nms q body xs) (hv : notSet v = true) (hn : nms[x]? = some n) :
    BothS C d sc nms q (sFor x e body) (.For (.Name n np) v xs [] pos) where
  snd := fun A env V outer hF hs ha ρ σ ow s Qa Ea Q E w k ks kx => by
    refine wpAny_For (he.ev A env V ρ hs ha σ ow s _ _ _ E w k.ok (fun u av σ' ow' s' z st g r => ?_) (kx.toE hF k)) fun x => folded_not hv
    have k' := k.stp hF st g
    have hA : A.frames = some V.l := ha.frames
    obtain ⟨items, hseq, z⟩ := z
    obtain ⟨l, vs, rfl, li, rr, hc⟩ := seqOf_isL g r hseq
    obtain ⟨hh, gg, dd, tt, oo⟩ := s'
    refine iter_list li fun h' gr it => ?_
    have nI : hh.get? hh.objs.size = Option.none := Heap.fresh _
    have fr : ∀ b ∈ [hh.objs.size], hh.get? b = Option.none ∧ ∃ o, h'.get? b = some o := fun b m => by
      rw [List.mem_singleton.mp m]
      obtain ⟨o, e, _⟩ := it
      exact ⟨nI, o, e⟩
    have ko := k'.open_ (h' := h') (t := tt) (wr := [hh.objs.size]) gr fr
    have st' : Stp (frs V) (Own σ' ow') (Own σ' ow') ⟨hh, gg, dd, tt, oo⟩ { heap := h', gens := gg, drawn := dd, toks := tt, os := oo } := Stp.ext gr tt
    have ss : SStp (ownX env) V.fs (Own σ ow) (Own σ' ow') s { heap := h', gens := gg, drawn := dd, toks := tt, os := oo } := (st.trans st').toS
    have fr0 : ∀ b ∈ [hh.objs.size], s.heap.get? b = Option.none := fun b m => st.back rfl g b (fr b m).1
    have nz : ∀ b ∈ [hh.objs.size], b ∉ V.its := fun b m n => by
      obtain ⟨_, o, y⟩ := k.ok.good.mem b (List.mem_append_right _ n)
      rw [fr0 b m] at y; cases y
    rcases hc with ⟨rfl, off⟩ | ⟨rfl, hst⟩
    · have zg : Zg (Zs σ' ow' (zss V)) (Zs σ' ow' (zss (V.plus [hh.objs.size]))) hh := fun b y => by
        rcases y with y | y
        · exact .inl (.inl y)
        · rcases Vo.plus_mem y with y | y
          · exact .inl (.inr y)
          · exact .inr (fr b y).1
      obtain ⟨y1, m, y2⟩ := li
      exact loop_snd hF hA hn (It.ilist (ax := l) (vs := vs)) (hB.snd A env (V.plus [hh.objs.size]) outer hF.plus hs ha.plus) k.ok.good.stays fr0 nz ks kx ⟨it, ⟨y1, m, gr _ _ y2⟩, rr.kp (fun b o e _ => gr b o e) zg, zg.not y2 off⟩ ko ss z
    · exact loop_snd hF hA hn It.own (hB.snd A env (V.plus [hh.objs.size]) outer hF.plus hs ha.plus) k.ok.good.stays fr0 nz ks kx it ko ss z
end
end Ap
end
section
set_option Elab.async false
set_option linter.unusedVariables false
set_option linter.unusedSimpArgs false
namespace Ap
open PySem PySem.Calls PyProof.Rows
section
variable {C : Cx} {T : Tabs} {P : Prg} {F : Calls} {d : Nat} {sc : Scope} {nms : List Str} {q : Bool}
/-- the clauses of a try -/
inductive BothH (C : Cx) (T : Tabs) (P : Prg) (d : Nat) (sc : Scope) (nms : List Str) : WH → List ExceptHandler → Prop
  | nil : BothH C T P d sc nms hNil []
  | cons {dd x : Nat} {b : WS} {n y : Str} {np pos : Pos} {b₀ : Stmt} {bs : List Stmt} {r : WH} {rest : List ExceptHandler} {cj : ClsI} : T.clsN[dd]? = some n → gl sc n = true → P.cls[dd]? = some cj → cj.init = Option.none → nms[x]? = some y → sc.names.lookup y = some .local →
      BothB C d sc nms true b (b₀ :: bs) → BothH C T P d sc nms r rest → BothH C T P d sc nms (hCons P.cls dd x b r) (.ExceptHandler (some (.Name n np)) (some y) (b₀ :: bs) pos :: rest)
variable {A : Around} {env : Env} {V : Vo} {outer : List Env} {ρ : Loc} {σ : St} {ow : Nat → Option Nat} {s : Shared}
theorem SOk.mark {e : Addr} {c : Nat} {t : Option (Addr × Value)} (k : SOk C A q env V nms ρ σ ow s) (x : ExO s.heap e (.ref (C.clsA c)) t) (n : ¬ Zs σ ow (zss V) e) : SOk C (A.mark (some (.ref e))) true env V nms ρ σ ow s := by
  obtain ⟨oe, vs, a0, x1, x2, x3, x4, x5, x6, x7⟩ := x
  exact ⟨⟨k.ok.good, k.ok.loc, .inr ⟨rfl, e, oe, vs, rfl, x1, x4, x6, n⟩, k.ok.live⟩, k.ns, k.cells⟩
theorem SOk.unmark {e : Addr} {q' : Bool} (hh : A.handled = Option.none) (k : SOk C (A.mark (some (.ref e))) q' env V nms ρ σ ow s) : SOk C A false env V nms ρ σ ow s :=
  ⟨⟨k.ok.good, k.ok.loc, .inl hh, k.ok.live⟩, k.ns, k.cells⟩
theorem SOk.noLoc (k : SOk C A q env V nms ρ σ ow s) : SOk C A q env V nms [] σ ow s :=
  ⟨⟨k.ok.good, ⟨k.ok.loc.kind, k.ok.loc.glob, k.ok.loc.blt, k.ok.loc.offL, fun j w e => by simp [getL] at e⟩, k.ok.hnd, k.ok.live⟩, k.ns, k.cells⟩
/-- the name of a clause goes -/
theorem goes_snd (hF : FEnv env nms V outer) {n : Str} {pos : Pos} {Q : Unit → Shared → Prop} {E : Value → Shared → Prop} (hl : env.kindOf n = some .local) (k : SOk C A q env V nms ρ σ ow s)
    (K : ∀ s', SStp (ownX env) V.fs (Own σ ow) (Own σ ow) s s' → SOk C A q env V nms [] σ ow s' → Q () s') : wpAny (model C.prog C.w) A (do bindName env n .none; unbindBehindTheSuite env n pos) Q E s := by
  obtain ⟨m, hn⟩ := k.ns
  refine wpAny_nameGoes hl hn (by rw [hF.kind]; rfl) fun h' m' hn' hs => ?_
  have hk : ∀ b ob, b ≠ env.locals → s.heap.get? b = some ob → h'.get? b = some ob := fun b ob nb e => (hs.2 b nb).trans e
  have hlv : ∃ o, h'.get? env.locals = some o ∧ ∀ vs, o.data ≠ .fields vs := by
    obtain ⟨o, es, ep, ho, hd, _⟩ := hn'
    exact ⟨o, ho, fun vs q => by rw [hd] at q; cases q⟩
  have st : SStp (ownX env) V.fs (Own σ ow) (Own σ ow) s { s with heap := h', toks := s.toks + 1 } := SStp.touch _ List.mem_cons_self hF.inF hk (let ⟨o, e, _⟩ := hlv; ⟨o, e⟩)
  refine K _ st ⟨⟨k.ok.good.touch hF.inF hk hlv _, ⟨k.ok.loc.kind, k.ok.loc.glob, k.ok.loc.blt, k.ok.loc.offL, fun j w e => by simp [getL] at e⟩, k.ok.hnd.sstp st, let ⟨o, e, _⟩ := hlv; ⟨o, e⟩⟩, ⟨_, hn'⟩, fun y c hc => ?_⟩
  obtain ⟨v', o, eo, d⟩ := k.cells y c hc
  exact ⟨v', o, hk _ _ (hF.cel y c hc).2 eo, d⟩
theorem handle_snd (X : CxOk C T P) (hF : FEnv env nms V outer) (hs : env.scope = sc) (ha : AOk A V d) (hh : A.handled = Option.none) {σ₀ : St} {ow₀ : Nat → Option Nat} {s₀ : Shared} {Qa : QS} {Ea : ES} {Q : Flow → Shared → Prop} {E : Value → Shared → Prop} {e Tb : Addr} {c : Nat}
    (hb : C.base.StaysIn s₀.heap) (ks : KS C A false env V nms σ₀ ow₀ s₀ Qa Q) (kx : KXS C A false env V nms σ₀ ow₀ s₀ Ea E) (hxc : c ∈ C.xcs) {hs' : WH} {xs : List ExceptHandler} (hB : BothH C T P d sc nms hs' xs) :
    ∀ ρ σ ow s, hs' c ρ σ Qa Ea → SOk C A false env V nms ρ σ ow s → SStp (ownX env) V.fs (Own σ₀ ow₀) (Own σ ow) s₀ s →
      ExO s.heap e (.ref (C.clsA c)) (some (Tb, .none)) → s₀.heap.get? e = Option.none ∧ ¬ Zs σ ow (zss V) e → s₀.heap.get? Tb = Option.none → ¬ Zs σ ow (zss V) Tb →
      wpAny (model C.prog C.w) A (handleBy (.ref e) env xs) Q E s := by
  induction hB with
  | nil =>
    intro ρ σ ow s w k st x n nT nZ
    refine wpAny_handleBy_nil ?_
    unfold PySem.passOn
    obtain ⟨oe, vs, a0, x1, x2, x3, x4, x5, x6, x7, x8⟩ := id x
    refine wpAny_bind (wpAny_field x1 x4 x7 ?_)
    rw [if_neg (by simp)]
    refine wpAny_bind (flight_snd hF hb st k n x nT nZ fun s' st' k' x' => ?_)
    rw [hF.frame] at x'
    exact wpAny_throw (kx e c ρ σ ow s' w st' k' ⟨⟨n.1, n.2, hxc⟩, _, x', fun T' fl' z => by cases z; exact ⟨.inr rfl, nT, nZ⟩⟩)
  | @cons dd x b nm y np pos b₀ bs r rest cj h1 h2 h3 h4 h5 h6 h7 _ ih =>
    intro ρ σ ow s w k st xo n nT nZ
    obtain ⟨ci, hci, w⟩ := w
    obtain ⟨g1, g2, g3⟩ := gl_of h2
    have km := k.mark xo n.2
    refine wpAny_handleBy_cons (codeAny_handlers_test (gname X (by unfold Env.kindOf; rw [hs]; exact g1) g2 km.ok (X.clsN dd nm h1) ?_)) (by intro q; cases q)
    obtain ⟨oe, vs, a0, x1, x2, x3, x4, x5, x6, x7, x8⟩ := id xo
    refine X.exm c hxc dd (X.xcs dd cj h3 h4) ci hci _ _ _ s e oe vs k.ok.good.stays x1 x3 x4 x2 ?_
    cases hsup : ci.sups.contains dd with
    | false =>
      rw [hsup] at w
      exact ih ρ σ ow s w k st xo n nT nZ
    | true =>
      rw [hsup] at w
      have ham : AOk (A.mark (some (.ref e))) V d := ha.mark _
      have hl : env.kindOf y = some .local := by unfold Env.kindOf; rw [hs]; exact h6
      refine codeAny_handlers_suite_as (flight_snd hF hb st km n xo nT nZ fun s' st' k' x' => ?_)
      obtain ⟨oe', vs', a0', y1, y2, y3, y4, _⟩ := id x'
      refine store_snd hF (v := .exn c) h5 k' (.exn y1 y3 y4 y2 hxc n.2) fun s₂ st₂ k₂ => ?_
      refine h7.snd _ env V outer hF hs ham _ σ ow s₂ _ _ _ _ w k₂ (fun fl af ρ₃ σ₃ ow₃ s₃ z st₃ k₃ rf => ?_) (fun e c ρ₃ σ₃ ow₃ s₃ z st₃ k₃ th => False.elim z)
      cases rf with
      | next => exact False.elim z
      | ret r =>
        refine goes_snd hF hl (k₃.unmark hh) fun s₄ st₄ k₄ => ?_
        exact ks _ _ [] σ₃ ow₃ s₄ z (((st'.trans st₂).trans st₃).trans st₄) k₄ (.ret (st₄.vr r))
theorem BothS.tryE (X : CxOk C T P) {body : WS} {hs' : WH} {xs : List Stmt} {h₀ : ExceptHandler} {hrest : List ExceptHandler} {pos : Pos} (hB : BothB C d sc nms false body xs) (hH : BothH C T P d sc nms hs' (h₀ :: hrest)) :
    BothS C d sc nms false (sTry body hs') (.Try xs (h₀ :: hrest) [] [] pos) where
  snd := fun A env V outer hF hs ha ρ σ ow s Qa Ea Q E w k ks kx => by
    refine wpAny_Try_except (hB.snd A env V outer hF hs ha ρ σ ow s _ _ _ _ w k (fun fl af ρ₃ σ₃ ow₃ s₃ z st₃ k₃ rf => ?_) (fun e c ρ₃ σ₃ ow₃ s₃ z st₃ k₃ th => ?_))
    · cases rf with
      | next => exact wpAny_execs_nil (ks _ _ ρ₃ σ₃ ow₃ s₃ z st₃ k₃ .next)
      | ret r => exact ks _ _ ρ₃ σ₃ ow₃ s₃ z st₃ k₃ (.ret r)
    · have t0 := th.1
      refine note_snd hF ha.frames k.ok.good.stays st₃ k₃ th fun s' Tb st' k' x nT nZ => ?_
      refine flight_snd hF k.ok.good.stays st' k' ⟨t0.1, t0.2.1⟩ x nT nZ fun s'' st'' k'' x' => ?_
      exact handle_snd X hF hs ha k.ok.hnd.none k.ok.good.stays ks kx t0.2.2 hH ρ₃ σ₃ ow₃ s'' z k'' st'' x' ⟨t0.1, t0.2.1⟩ nT nZ
end
end Ap
end
section
set_option Elab.async false
set_option linter.unusedVariables false
set_option linter.unusedSimpArgs false
namespace Ap
open PySem PySem.Calls PyProof.Rows
/-- what a def must look like -/
def okF (fi : FnI) (ft : FnT) : Bool :=
  decide ft.nms.Nodup && ft.nms.all (fun x => ft.sc.names.lookup x == some .local || ft.sc.names.lookup x == some .cell) && ft.sc.kind == .function && !ft.sc.isGenerator && !ft.sc.isCoroutine &&
    decide (fi.arity ≤ ft.nms.length) && decide (fi.arity ≤ fi.nloc)
theorem cellsFrom_acc (x : Str) : ∀ (names : List (Str × NameKind)) (n : Nat) (acc : List (Str × Addr)), (acc.lookup x).isSome = true → ((cellsFrom n names acc).lookup x).isSome = true := by
  intro names
  induction names with
  | nil => intro n acc h; exact h
  | cons p r ih =>
    obtain ⟨nm, kd⟩ := p
    intro n acc h
    rw [cellsFrom]
    split
    · refine ih _ _ ?_
      rw [List.lookup_cons]
      cases hb : x == nm with
      | true => rfl
      | false => exact h
    · exact ih _ _ h
theorem cellsFrom_has (x : Str) : ∀ (names : List (Str × NameKind)) (n : Nat) (acc : List (Str × Addr)), names.lookup x = some .cell → ((cellsFrom n names acc).lookup x).isSome = true := by
  intro names
  induction names with
  | nil => intro n acc h; cases h
  | cons p r ih =>
    obtain ⟨nm, kd⟩ := p
    intro n acc h
    rw [List.lookup_cons] at h
    rw [cellsFrom]
    cases hb : x == nm with
    | true =>
      rw [hb] at h
      cases h
      rw [if_pos (by decide)]
      exact cellsFrom_acc x r _ _ (by rw [List.lookup_cons, hb]; rfl)
    | false =>
      rw [hb] at h
      split
      · exact ih _ _ h
      · exact ih _ _ h
theorem bindL_other {kd : Str → Option NameKind} {x : Str} : ∀ (binds : List (Str × Value)) (m : Str → Option Value), x ∉ binds.map (·.1) → bindL kd binds m x = m x := by
  intro binds
  induction binds with
  | nil => intro m h; rfl
  | cons p r ih =>
    obtain ⟨n, v⟩ := p
    intro m h
    rw [List.map_cons, List.mem_cons, not_or] at h
    rw [bindL, ih _ h.2]
    split
    · exact if_neg h.1
    · rfl
theorem bindL_get {kd : Str → Option NameKind} {x : Str} {v : Value} : ∀ (binds : List (Str × Value)) (m : Str → Option Value), (binds.map (·.1)).Nodup → (x, v) ∈ binds → kd x = some .local → bindL kd binds m x = some v := by
  intro binds
  induction binds with
  | nil => intro m hd h; cases h
  | cons p r ih =>
    obtain ⟨n, u⟩ := p
    intro m hd h hk
    rw [List.map_cons, List.nodup_cons] at hd
    rw [bindL]
    rcases List.mem_cons.mp h with e | h
    · cases e
      rw [bindL_other r _ hd.1, if_pos hk, if_pos rfl]
    · exact ih _ hd.2 h hk
theorem bindC_other {kd : Str → Option NameKind} {x : Str} : ∀ (binds : List (Str × Value)) (m : Str → Option Value), x ∉ binds.map (·.1) → bindC kd binds m x = m x := by
  intro binds
  induction binds with
  | nil => intro m h; rfl
  | cons p r ih =>
    obtain ⟨n, v⟩ := p
    intro m h
    rw [List.map_cons, List.mem_cons, not_or] at h
    rw [bindC, ih _ h.2]
    split
    · rfl
    · exact if_neg h.1
theorem bindC_get {kd : Str → Option NameKind} {x : Str} {v : Value} : ∀ (binds : List (Str × Value)) (m : Str → Option Value), (binds.map (·.1)).Nodup → (x, v) ∈ binds → ¬ kd x = some .local → bindC kd binds m x = some v := by
  intro binds
  induction binds with
  | nil => intro m hd h; cases h
  | cons p r ih =>
    obtain ⟨n, u⟩ := p
    intro m hd h hk
    rw [List.map_cons, List.nodup_cons] at hd
    rw [bindC]
    rcases List.mem_cons.mp h with e | h
    · cases e
      rw [bindC_other r _ hd.1, if_neg hk, if_pos rfl]
    · exact ih _ hd.2 h hk
/-- the cells of a frame -/
def cellA (env : Env) : List Addr := env.cells.filterMap fun p => if env.cells.lookup p.1 = some p.2 then some p.2 else Option.none
theorem mem_cellA {env : Env} {c : Addr} (h : c ∈ cellA env) : ∃ n, env.cells.lookup n = some c := by
  obtain ⟨p, _, e⟩ := List.mem_filterMap.mp h
  by_cases q : env.cells.lookup p.1 = some p.2
  · rw [if_pos q] at e; cases e; exact ⟨_, q⟩
  · rw [if_neg q] at e; cases e
theorem cellA_mem {env : Env} {n : Str} {c : Addr} (h : env.cells.lookup n = some c) : c ∈ cellA env :=
  List.mem_filterMap.mpr ⟨(n, c), mem_of_lookup h, if_pos h⟩
def Vo.call (V : Vo) (env : Env) : Vo := ⟨env :: V.l, env.locals :: cellA env ++ V.fs, V.its⟩
section
variable {C : Cx} {T : Tabs} {P : Prg} {A : Around} {q : Bool} {env : Env} {V : Vo} {nms : List Str} {ρ : Loc} {σ σ' : St} {ow ow' : Nat → Option Nat} {s s' : Shared}
theorem Vo.call_sub : ∀ b ∈ zss V, b ∈ zss (V.call env) := fun b h => by
  rcases List.mem_append.mp h with h | h
  · exact List.mem_append_left _ (List.mem_append_right _ h)
  · exact List.mem_append_right _ h
theorem Vo.call_fs {b : Addr} (h : b ∈ (V.call env).fs) : b = env.locals ∨ b ∈ cellA env ∨ b ∈ V.fs := by
  rcases List.mem_append.mp h with h | h
  · rcases List.mem_cons.mp h with h | h
    · exact .inl h
    · exact .inr (.inl h)
  · exact .inr (.inr h)
theorem Vo.call_mem {b : Addr} (h : b ∈ zss (V.call env)) : (b = env.locals ∨ b ∈ cellA env) ∨ b ∈ zss V := by
  rcases List.mem_append.mp h with h | h
  · rcases Vo.call_fs h with h | h | h
    · exact .inl (.inl h)
    · exact .inl (.inr h)
    · exact .inr (List.mem_append_left _ h)
  · exact .inr (List.mem_append_right _ h)
theorem zs_call {b : Addr} (h : Zs σ ow (zss V) b) : Zs σ ow (zss (V.call env)) b := h.imp id (Vo.call_sub b)
/-- a frame is opened -/
theorem Good.call_ {h' : Heap} {t : Nat} (G : Good C V σ ow s) (hk : env.scope.kind ≠ .module) (hf : env.frame = some env.locals) (gr : ∀ b o, s.heap.get? b = some o → h'.get? b = some o) (frL : s.heap.get? env.locals = Option.none) (lvL : ∃ o, h'.get? env.locals = some o ∧ ∀ vs, o.data ≠ .fields vs)
    (frC : ∀ n c, env.cells.lookup n = some c → s.heap.get? c = Option.none ∧ ∃ o, h'.get? c = some o) : Good C (V.call env) σ ow { s with heap := h', toks := t } := by
  have fr : ∀ b, b = env.locals ∨ b ∈ cellA env → s.heap.get? b = Option.none ∧ ∃ o, h'.get? b = some o := fun b m => by
    rcases m with m | m
    · subst m; exact ⟨frL, lvL.imp fun o e => e.1⟩
    · obtain ⟨n, e⟩ := mem_cellA m
      exact frC n b e
  have bn : ∀ b, s.heap.get? b = Option.none → C.base.get? b = Option.none := fun b e => by
    cases z : C.base.get? b with
    | none => rfl
    | some o => have := G.stays b o z; rw [e] at this; cases this
  have zg : Zg (Zs σ ow (zss V)) (Zs σ ow (zss (V.call env))) s.heap := fun b z => by
    rcases z with z | z
    · exact .inl (.inl z)
    · rcases Vo.call_mem z with z | z
      · exact .inr (fr b z).1
      · exact .inl (.inr z)
  refine ⟨fun b o e => gr b o (G.stays b o e), ⟨hk, ?_, G.frames.of_keeps fun b o e _ => ⟨o, gr b o e, rfl⟩⟩, fun b m n => ?_, fun b m => ?_, fun e' he L hL => ?_, fun b o' e => ?_, fun b c e => ?_, G.fresh, fun L hL z => ?_, G.gens⟩
  · obtain ⟨o, e, hd⟩ := lvL
    exact ⟨_, o, hf, bn _ frL, e, hd⟩
  · rcases Vo.call_fs n with n | n | n
    · obtain ⟨_, o, z⟩ := G.mem b (List.mem_append_right _ m)
      rw [(fr b (.inl n)).1] at z; cases z
    · obtain ⟨_, o, z⟩ := G.mem b (List.mem_append_right _ m)
      rw [(fr b (.inr n)).1] at z; cases z
    · exact G.apart b m n
  · rcases Vo.call_mem m with m | m
    · exact ⟨bn _ (fr b m).1, (fr b m).2⟩
    · obtain ⟨x, o, z⟩ := G.mem b m
      exact ⟨x, o, gr b o z⟩
  · rcases List.mem_cons.mp he with he | he
    · subst he
      rw [hf] at hL
      cases hL
      exact List.mem_append_left _ List.mem_cons_self
    · exact List.mem_append_right _ (G.sub e' he L hL)
  · have x := G.store b o' e
    obtain ⟨oa, ea⟩ := Option.isSome_iff_exists.mp x.live
    exact x.kp (fun b o e _ => gr b o e) zg (by rw [ea]; exact gr b oa ea) fun dx hd => by
      obtain ⟨od, ed⟩ := Option.isSome_iff_exists.mp (G.parts dx b hd).2.2
      exact ⟨by rw [ed]; exact gr dx od ed, hd⟩
  · obtain ⟨x1, x2, x3⟩ := G.parts b c e
    obtain ⟨od, ed⟩ := Option.isSome_iff_exists.mp x3
    exact ⟨x1, x2, by show (h'.get? b).isSome = true; rw [gr b od ed]; rfl⟩
  · rcases Vo.call_mem hL with m | m
    · obtain ⟨o, y⟩ := G.live z
      rw [(fr L m).1] at y; cases y
    · exact G.off L m z
/-- a frame is left -/
theorem Good.left_ (hsub : ∀ env ∈ V.l, ∀ L, env.frame = some L → L ∈ V.fs) (G : Good C (V.call env) σ ow s) : Good C V σ ow s := by
  have zg : ∀ h : Heap, Zg (Zs σ ow (zss (V.call env))) (Zs σ ow (zss V)) h := fun h b z => .inl (zs_call z)
  refine ⟨G.stays, G.frames.2.2, fun b m n => G.apart b m (List.mem_append_right _ n), fun b m => G.mem b (Vo.call_sub b m), hsub, fun b o' e => ?_, G.parts, G.fresh, fun L hL => G.off L (Vo.call_sub L hL), G.gens⟩
  · exact (G.store b o' e).kp (fun _ _ e _ => e) (zg _) rfl fun dx hd => ⟨rfl, hd⟩
theorem get_zip {nms : List Str} {vs : List AV} {vals : List Value} {Z : Nat → Prop} {h : Heap} {n : Nat} (r : VRs C Z h vs vals) (hl : vs.length = n) (hn : n ≤ nms.length) {k i : Nat} {v : AV} (e : getL (vs.map some ++ List.replicate k Option.none) i = some v) :
    ∃ x u, nms[i]? = some x ∧ (x, u) ∈ (nms.take n).zip vals ∧ VR C Z h v u := by
  unfold getL at e
  rw [List.getD_eq_getElem?_getD] at e
  have hi : i < vs.length := by
    apply Decidable.byContradiction
    intro q
    rw [List.getElem?_append_right (by simpa using Nat.le_of_not_lt q)] at e
    simp only [List.length_map] at e
    rcases Nat.lt_or_ge (i - vs.length) k with z | z
    · rw [List.getElem?_replicate, if_pos z] at e; cases e
    · rw [List.getElem?_replicate, if_neg (by omega)] at e; cases e
  rw [List.getElem?_append_left (by simpa using hi), List.getElem?_map, List.getElem?_eq_getElem hi] at e
  simp at e
  subst e
  obtain ⟨u, hu, ru⟩ := r.get i _ (List.getElem?_eq_getElem hi)
  have hi2 : i < nms.length := by omega
  refine ⟨nms[i], u, List.getElem?_eq_getElem hi2, ?_, ru⟩
  refine List.mem_of_getElem? (i := i) ?_
  rw [List.getElem?_zip_eq_some]
  refine ⟨?_, hu⟩
  rw [List.getElem?_take, if_pos (by omega), List.getElem?_eq_getElem hi2]
/-- a call of a def runs its body -/
theorem call_def {d : Nat} {F : Calls} (X : CxOk C T P) {f : Nat} {fi : FnI} {ft : FnT} (hfi : P.fns[f]? = some fi) (hO : FnOk C (C.fnA f) ft fi.arity) (hok : okF fi ft = true) (hB : BothB C d ft.sc ft.nms fi.quiet (fi.body F) ft.body)
    {vs : List AV} {vals : List Value} {Qa : PQ} {Ea : PE} {R : Result → Shared → Prop} (hl : vs.length = fi.arity)
    (w : fi.body F (vs.map some ++ List.replicate (fi.nloc - fi.arity) Option.none) σ (kFn Qa) (eFn Ea))
    (G : Good C V σ ow s) (ha : AOkF A V (d + 1)) (hh : HOk A fi.quiet (Zs σ ow (zss V)) s.heap) (r : VRs C (Zs σ ow (zss V)) s.heap vs vals)
    (kv : KV C V σ ow s (RV C) Qa (fun v s' => R (.ok (.ret v)) s')) (kx : KX C V σ ow s Ea (fun e s' => R (.error e) s')) : codeAny (model C.prog C.w) A (.call (.ref (C.fnA f)) ⟨vals, []⟩) R s := by
  obtain ⟨o, fd, f1, f2, f3, f4, f5, f6, f7, f8, f9, f10⟩ := hO.ex
  unfold okF at hok
  simp only [Bool.and_eq_true, decide_eq_true_eq, beq_iff_eq, Bool.not_eq_true', List.all_eq_true, Bool.or_eq_true] at hok
  obtain ⟨⟨⟨⟨⟨⟨o2, o3⟩, o4⟩, o5⟩, o6⟩, o7⟩, o8⟩ := hok
  have hlv : vals.length = fi.arity := r.length ▸ hl
  have hcell : ∀ x, ft.sc.names.lookup x = some .cell → ((cellsFrom (s.heap.objs.size + 1) fd.scope.names []).lookup x).isSome = true := fun x h => cellsFrom_has _ _ _ _ (by rw [f5]; exact h)
  refine codeAny_call_cells (by have := ha.depth; omega) (G.stays _ _ f1) f3 (X.nolimit.keeps G.stays) (f9.keeps G.stays) f4 (f10 vals hlv) f8 (fun p hp => ?_) (fun s₁ x => ?_) (by rw [f5]; exact o6) (by rw [f5]; exact o5) (by rw [f5]; exact o4)
  · have hm : p.1 ∈ ft.nms := List.mem_of_mem_take (List.of_mem_zip hp).1
    rw [f5]
    rcases o3 p.1 hm with h | h
    · exact .inl h
    · exact .inr ⟨h, by rw [← f5]; exact hcell p.1 h⟩
  generalize henv : callEnvC fd s.heap.objs.size (C.fnA f) = env at x ⊢
  have eL : env.locals = s.heap.objs.size := by rw [← henv]; rfl
  have eS : env.scope = ft.sc := by rw [← henv]; exact f5
  have eF : env.frame = some env.locals := by rw [← henv]; rfl
  have eC : env.cells = cellsFrom (s.heap.objs.size + 1) fd.scope.names [] := by rw [← henv]; rfl
  have eG : env.globals = mainGlobals := by rw [← henv]; exact f6
  have eB : env.builtins = builtinsNs := by rw [← henv]; exact f7
  obtain ⟨xin, xc, xa, xv⟩ := x
  obtain ⟨⟨h', tk, rfl⟩, xn, xk, xf⟩ := xin
  have frL : s.heap.get? env.locals = Option.none := by rw [eL]; exact Heap.fresh _
  have frC : ∀ n c, env.cells.lookup n = some c → s.heap.get? c = Option.none := fun n c e => by
    cases z : s.heap.get? c with
    | none => rfl
    | some ob =>
      have h1 := Heap.lt_size z
      have h2 := xv n c (mem_of_lookup e)
      exact absurd (Nat.lt_of_lt_of_le h1 xf) (Nat.not_lt.mpr (Nat.le_of_lt h2))
  have frX : ∀ b ∈ ownX env, s.heap.get? b = Option.none := fun b m => by
    rcases List.mem_cons.mp m with m | m
    · rw [m]; exact frL
    · obtain ⟨p, hp, e⟩ := List.mem_map.mp m
      cases z : s.heap.get? b with
      | none => rfl
      | some ob =>
        have h1 := Heap.lt_size z
        have h2 := xv p.1 p.2 hp
        subst e
        exact absurd (Nat.lt_of_lt_of_le h1 xf) (Nat.not_lt.mpr (Nat.le_of_lt h2))
  have lvL : ∃ o, h'.get? env.locals = some o ∧ ∀ vs, o.data ≠ .fields vs := by
    obtain ⟨o, es, ep, ho, hd, _⟩ := xn
    exact ⟨o, ho, fun vs q => by rw [hd] at q; cases q⟩
  have g₁ : Good C (V.call env) σ ow { s with heap := h', toks := tk } := G.call_ (by rw [eS, o4]; decide) eF xk frL lvL fun n c e => ⟨frC n c e, by
    obtain ⟨o, z, _⟩ := xc n c e
    exact ⟨o, z⟩⟩
  have zg : Zg (Zs σ ow (zss V)) (Zs σ ow (zss (V.call env))) s.heap := fun b z => by
    rcases z with z | z
    · exact .inl (.inl z)
    · rcases Vo.call_mem z with z | z
      · rcases z with z | z
        · exact .inr (by rw [z]; exact frL)
        · obtain ⟨n, e⟩ := mem_cellA z
          exact .inr (frC n b e)
      · exact .inl (.inr z)
  have hFE : FEnv env ft.nms (V.call env) V.l := by
    refine ⟨rfl, by rw [eS]; exact o4, eF, List.mem_append_left _ List.mem_cons_self, fun y c hc => ⟨List.mem_append_left _ (List.mem_cons_of_mem _ (cellA_mem hc)), ?_⟩, fun y z c hy hz => name_of_addr xa (mem_of_lookup hy) (mem_of_lookup hz), o2, fun y hy => ?_⟩
    · have := xv y c (mem_of_lookup hc)
      exact Nat.ne_of_gt this
    · unfold Env.kindOf
      rw [eS]
      rcases o3 y hy with h | h
      · exact .inl h
      · exact .inr ⟨h, by
          have := hcell y h
          rw [← eC] at this
          exact Option.isSome_iff_exists.mp this⟩
  have nd : (((ft.nms.take fi.arity).zip vals).map (·.1)).Nodup := by
    rw [List.map_fst_zip (by rw [List.length_take]; omega)]
    exact o2.sublist (List.take_sublist _ _)
  have ha' : AOk (A.deeper env) (V.call env) d := ha.deeper env _ _
  have k₁ : SOk C (A.deeper env) fi.quiet env (V.call env) ft.nms (vs.map some ++ List.replicate (fi.nloc - fi.arity) Option.none) σ ow { s with heap := h', toks := tk } := by
    refine ⟨⟨g₁, ⟨by rw [eS]; exact o4, eG, eB, fun z => ?_, fun i v e => ?_⟩, ?_, lvL.imp fun o e => e.1⟩, ⟨_, xn⟩, fun y c hc => ⟨_, xc y c hc⟩⟩
    · obtain ⟨ob, y⟩ := G.live z
      rw [frL] at y; cases y
    · obtain ⟨y, u, ey, hm, ru⟩ := get_zip (nms := ft.nms) r hl o7 e
      refine ⟨y, u, ey, ru.kp (fun b o e _ => xk b o e) zg, ?_⟩
      have hy : y ∈ ft.nms := List.mem_of_getElem? ey
      rcases hFE.kinds y hy with h | ⟨h, c, hc⟩
      · exact .inl ⟨h, _, xn, bindL_get _ _ nd hm h⟩
      · refine .inr ⟨c, .inl h, hc, ?_, fun z => ?_⟩
        · have := xc y c hc
          rw [bindC_get _ _ nd hm (by rw [h]; decide)] at this
          exact this
        · obtain ⟨ob, w⟩ := G.live z
          rw [frC y c hc] at w; cases w
    · rcases hh with h | ⟨hq, e, o, vs, h1, h2, h3, h4, h5⟩
      · exact .inl h
      · exact .inr ⟨hq, e, o, vs, h1, xk _ _ h2, h3, h4, zg.not h2 h5⟩
  have toStp : ∀ σ' ow' s', SStp (ownX env) (V.call env).fs (Own σ ow) (Own σ' ow') { s with heap := h', toks := tk } s' → Stp (frs V) (Own σ ow) (Own σ' ow') s s' := fun σ' ow' s' x => by
    have nC : ∀ b o, s.heap.get? b = some o → b ∉ V.fs → b ∉ (V.call env).fs := fun b o e n m => by
      rcases Vo.call_fs m with m | m | m
      · rw [m, frL] at e; cases e
      · obtain ⟨y, hy⟩ := mem_cellA m
        rw [frC y b hy] at e; cases e
      · exact n m
    refine ⟨fun b o e n m => x.keep b o (xk b o e) n (nC b o e m), fun b o e m => x.frm b o (xk b o e) (List.mem_append_right _ m) (fun w => by rw [frX b w] at e; cases e), x.grow, fun b z => (x.fresh b z).imp id fun w => ?_, x.gens, x.drawn, x.os⟩
    cases e : s.heap.get? b with
    | none => rfl
    | some o => have := xk b o e; have w' : h'.get? b = Option.none := w; rw [w'] at this; cases this
  have vrL : ∀ {σ' : St} {ow' : Nat → Option Nat} {h : Heap} {v : AV} {u : Value}, VR C (Zs σ' ow' (zss (V.call env))) h v u → VR C (Zs σ' ow' (zss V)) h v u := fun r => r.kp (fun _ _ e _ => e) fun b z => .inl (zs_call z)
  refine hB.snd (A.deeper env) env (V.call env) V.l hFE eS ha' _ σ ow _ _ _ _ _ w k₁ (fun fl af ρ' σ' ow' s' z st k' rf => ?_) (fun e c ρ' σ' ow' s' z st k' th => ?_)
  · cases rf with
    | next => exact kv _ _ σ' ow' s' z (toStp _ _ _ st) (k'.ok.good.left_ G.sub) .none
    | ret r' => exact kv _ _ σ' ow' s' z (toStp _ _ _ st) (k'.ok.good.left_ G.sub) (vrL r')
  · have t0 := th.1
    unfold leaving
    refine wpAny_bind (note_snd hFE ha'.frames g₁.stays st k' th fun s'' Tb st' k'' x nT nZ => ?_)
    refine flight_snd hFE g₁.stays st' k'' ⟨t0.1, t0.2.1⟩ x nT nZ fun s₃ st₃ k₃ x₃ => ?_
    have up : ∀ b, h'.get? b = Option.none → s.heap.get? b = Option.none := fun b w => by
      cases e : s.heap.get? b with
      | none => rfl
      | some o => have := xk b o e; rw [w] at this; cases this
    exact kx e c σ' ow' s₃ z (toStp _ _ _ st₃) (k₃.ok.good.left_ G.sub) ⟨⟨up _ t0.1, fun w => t0.2.1 (zs_call w), t0.2.2⟩, _, x₃, fun T' fl' y => by cases y; exact ⟨rfl, up _ nT, fun w => nZ (zs_call w)⟩⟩
/-- every def of the text does what the abstract one does -/
theorem wpF_snd (X : CxOk C T P) (hok : ∀ (f : Nat) (fi : FnI) (ft : FnT), P.fns[f]? = some fi → T.fts[f]? = some ft → okF fi ft = true)
    (hB : ∀ (F : Calls) (d : Nat), SndF C P d F → ∀ (f : Nat) (fi : FnI) (ft : FnT), P.fns[f]? = some fi → T.fts[f]? = some ft → BothB C d ft.sc ft.nms fi.quiet (fi.body F) ft.body) : ∀ d, SndF C P d (wpF P d) := by
  intro d
  induction d with
  | zero => exact fun f vs vals σ ow s Qa Ea R A V w => False.elim w
  | succ d ih =>
    intro f vs vals σ ow s Qa Ea R A V w G ha hh r kv kx
    obtain ⟨fi, hfi, hl, w⟩ := w
    obtain ⟨ft, h1, h2⟩ := X.fns f fi hfi
    have hq : qOf P f = fi.quiet := by unfold qOf; rw [hfi]; rfl
    rw [hq] at hh
    exact call_def X hfi h2 (hok f fi ft hfi h1) (hB _ d ih f fi ft hfi h1) hl w G ha hh r kv kx
end
end Ap
end
section
set_option Elab.async false
set_option linter.unusedVariables false
set_option linter.unusedSimpArgs false
set_option maxRecDepth 100000
namespace Ap
open PySem PySem.W PySem.Calls PyProof.Rows
section
variable {prog : Program} {w : World} {A : Around} {E : Value → Shared → Prop} {s : Shared} {K : Frag} {x D : Addr} {ox : Obj} {odo : Option Obj}
theorem findObjN {a g : Value} {name : Str} (hc : (clsIn K D).isSome = true) (ha : findIn K (.ref D) name = some (some a)) (hg : specialIn K a "__get__" = some (some g)) (ht : takesIn K a = some true) : findObj K D odo name = some (.bind g a) := by
  obtain ⟨cd, hc⟩ := Option.isSome_iff_exists.mp hc
  unfold findObj
  rw [hc, Option.bind_some, ha, Option.bind_some]
  simp [hg, ht]
/-- what the text's heap says of an exception class -/
structure XFacts (K : Frag) (D : Addr) : Prop where
  ga : findIn K (.ref D) "__getattribute__" = some (some (.builtin "BaseException.__getattribute__"))
  gh : findIn K (.ref D) "__getattr__" = some Option.none
  ca : findIn K (.ref D) "__class__" = some (some (.builtin "object.__class__"))
  cg : specialIn K (.builtin "object.__class__") "__get__" = some (some (.builtin "getset_descriptor.__get__"))
  ct : takesIn K (.builtin "object.__class__") = some true
  mo : mroIn K D (.type "object") = some true
  mb : mroIn K D (.type "BaseException") = some true
  cl : (clsIn K D).isSome = true
theorem exc_class (XF : XFacts K D) {Q : Option Value → Shared → Prop} (X : K.In s.heap) (I : InstAt s.heap x ox D odo) (hS : Slot "ValueError" "__getattribute__" "BaseException.__getattribute__") (h : Q (some (.ref D)) { s with toks := s.toks + 1 }) : wpAny (model prog w) A (getAttr? (.ref x) "__class__") Q E s := by
  obtain ⟨hh, g, d, t, os⟩ := s
  have L0 := I.type (M := model prog w)
  have L1 := looks_findIn (M := model prog w) X XF.ga
  have L2 := looks_findIn (M := model prog w) X XF.gh
  have L3 := looks_find (M := model prog w) X I (findObjN (odo := odo) XF.cl XF.ca XF.cg XF.ct)
  have L4 := looks_mroIn (M := model prog w) X XF.mb
  have hk : builtinKind "BaseException.__getattribute__" = some .slot := by decide +kernel
  have hsplit : splitId "BaseException.__getattribute__" = some ("BaseException", "__getattribute__") := by decide +kernel
  have hb := hS.bind (.ref x)
  have hx2 : (Value.builtin "BaseException.__getattribute__" == Value.builtin "object.__getattribute__") = false := by decide +kernel
  unfold getAttr? getAttrBy? getAttrBy
  refine wpAny_bind (wpAny_mkText (wpAny_bind (wpAny_attempt (wpAny_holding (wpAny_bind (L0.at (wpAny_bind (L1.at ?_))))))))
  show wpAny _ _ (if (onTheHeap (Value.ref D) && Value.builtin "BaseException.__getattribute__" == Value.builtin "object.__getattribute__") = true then _ else _) _ _ _
  rw [hx2, Bool.and_false, if_neg (by decide)]
  unfold getAttrByItsOwn hookBefore
  refine wpAny_bind ?_
  show wpAny _ _ (typeLookup (.ref D) "__getattr__") _ _ _
  refine L2.at ?_
  refine wpAny_bind (wpAny_attempt (wpAny_holding ?_))
  unfold callGetattribute boundAndCalled
  rw [Bool.false_and, if_neg (by decide), hb]
  refine wpAny_bind (wpAny_pure ?_)
  show wpAny _ _ (call (.builtin "BaseException.__getattribute__") [.ref x, .str "__class__" t]) _ _ _
  have ha := F.args_bexc_ga (.ref x) (.str "__class__" t)
  refine wpAny_call (codeAny_call_builtin hS.plain F.entry_bexc_ga ?_)
  simp only [checkBuiltinCall, hk, hsplit]
  refine wpAny_bind ?_
  unfold isInstance
  refine wpAny_bind (L0.at (L4.at ?_))
  rw [if_neg (by decide)]
  refine wpAny_of_eq (a := ()) ha ?_
  unfold Builtin.«object.__getattribute__» slotArgs
  refine wpAny_bind (wpAny_pure ?_)
  refine wpAny_bind (wpAny_pure ?_)
  refine wpAny_bind (L0.at (wpAny_bind (L3.at ?_)))
  show wpAny _ _ (Builtin.ObjectAttr.bindTo _ _ _ _) _ _ _
  unfold Builtin.ObjectAttr.bindTo
  refine wpAny_bind (wpAny_holding (wpAny_call (class_get (s := ⟨hh, g, d, t + 1, os⟩) X I XF.mo ?_)))
  refine wpAny_pure ?_
  refine handed_on rfl ?_
  exact wpAny_pure h
end
/-! ### what the written heap says -/
section
noncomputable def oK (K : Frag) (a : Addr) : Obj := (K.lookup a).getD default
noncomputable def cdK (K : Frag) (a : Addr) : ClassData := match (oK K a).data with | .cls cd => cd | _ => default
noncomputable def fdK (K : Frag) (a : Addr) : FuncData := match (oK K a).data with | .func fd => fd | _ => default
noncomputable def esK (K : Frag) (a : Addr) : Array DictEntry := match (oK K a).data with | .dict es _ => es | _ => #[]
noncomputable def epK (K : Frag) (a : Addr) : Nat := match (oK K a).data with | .dict _ ep => ep | _ => 0
noncomputable def fsK (K : Frag) (a : Addr) : Array Value := match (oK K a).data with | .fields vs => vs | _ => #[]
noncomputable def slK (K : Frag) (a : Addr) (i : Nat) : Option Value := ((oK K a).slots.toList[i]?).getD Option.none
def adK : Value → Addr | .ref a => a | _ => 0
def tkK : Value → Tok | .str _ t => t | _ => 0
def isS : Value → Bool | .str _ _ => true | _ => false
theorem isS_of {v : Value} (h : isS v = true) : ∃ n t, v = .str n t := by
  cases v <;> first | exact ⟨_, _, rfl⟩ | cases h
structure NsD (K : Frag) (N : Addr) : Prop where
  at_ : K.lookup N = some { oK K N with data := .dict (esK K N) (epK K N) }
  keys : ((esK K N).toList.all fun e => isS e.key) = true
theorem NsD.ns {K : Frag} {h : Heap} {N : Addr} (X : K.In h) (e : NsD K N) : h.Ns N (nsFind (esK K N)) :=
  ⟨_, _, _, X _ _ e.at_, rfl, fun x hx => isS_of (List.all_eq_true.mp e.keys x (Array.mem_toList_iff.mpr hx)), fun _ => rfl⟩
theorem ns_uniq {h : Heap} {N : Addr} {m m' : Str → Option Value} (a : h.Ns N m) (b : h.Ns N m') (x : Str) : m x = m' x := by
  obtain ⟨o1, es1, ep1, a1, a2, _, a3⟩ := a
  obtain ⟨o2, es2, ep2, b1, b2, _, b3⟩ := b
  rw [a1] at b1
  cases b1
  rw [a2] at b2
  cases b2
  rw [← a3, b3]
/-- an instance class -/
structure ClsK (K : Frag) (T : Tabs) (fa : List Addr) (a : Addr) (ci : ClsI) : Prop where
  at_ : K.lookup a = some (excClassObj (cdK K a).name (cdK K a).qualname a (cdK K a).ns (cdK K a).bases [.type "object"] true (cdK K a).slotNames (cdK K a).subclasses false (cdK K a).collection (oK K a).dict (slK K a 0) (slK K a 1) (slK K a 2) (slK K a 3) (slK K a 5) "object.__new__")
  ns : NsD K (cdK K a).ns
  ga : nsFind (esK K (cdK K a).ns) "__getattribute__" = Option.none
  gt : nsFind (esK K (cdK K a).ns) "__getattr__" = Option.none
  sa : nsFind (esK K (cdK K a).ns) "__setattr__" = Option.none
  ini : ∀ f, ci.init = some f → nsFind (esK K (cdK K a).ns) "__init__" = some (.ref (fa.getD f 0))
  ms : (ci.meths.all fun p => nsFind (esK K (cdK K a).ns) (T.atN.getD p.1 Str.empty) == some (.ref (fa.getD p.2 0))) = true
  no : ((List.range T.atN.length).all fun k => (ci.meths.lookup k).isSome || nsFind (esK K (cdK K a).ns) (T.atN.getD k Str.empty) == Option.none) = true
theorem lookup_mem {α β : Type} [BEq α] [LawfulBEq α] {a : α} {b : β} : ∀ {l : List (α × β)}, l.lookup a = some b → (a, b) ∈ l := by
  intro l
  induction l with
  | nil => intro h; cases h
  | cons p r ih =>
    obtain ⟨k, v⟩ := p
    intro h
    rw [List.lookup_cons] at h
    cases hb : a == k with
    | true => rw [hb] at h; cases h; rw [beq_iff_eq.mp hb]; exact List.mem_cons_self
    | false => rw [hb] at h; exact List.mem_cons_of_mem _ (ih h)
/-- an exception class -/
def veM : List Value := [.type "ValueError", .type "Exception", .type "BaseException", .type "object"]
def xfK (K : Frag) (D : Addr) : Bool :=
  findIn K (.ref D) "__getattribute__" == some (some (.builtin "BaseException.__getattribute__")) && findIn K (.ref D) "__getattr__" == some Option.none && findIn K (.ref D) "__class__" == some (some (.builtin "object.__class__")) &&
  specialIn K (.builtin "object.__class__") "__get__" == some (some (.builtin "getset_descriptor.__get__")) && takesIn K (.builtin "object.__class__") == some true && mroIn K D (.type "object") == some true && mroIn K D (.type "BaseException") == some true && (clsIn K D).isSome
theorem xfK_of {K : Frag} {D : Addr} (h : xfK K D = true) : XFacts K D := by
  unfold xfK at h
  simp only [Bool.and_eq_true, beq_iff_eq] at h
  obtain ⟨⟨⟨⟨⟨⟨⟨h1, h2⟩, h3⟩, h4⟩, h5⟩, h6⟩, h7⟩, h8⟩ := h
  exact ⟨h1, h2, h3, h4, h5, h6, h7, h8⟩
structure ExcK (K : Frag) (a : Addr) : Prop where
  at_ : K.lookup a = some (excClassObj (cdK K a).name (cdK K a).qualname a (cdK K a).ns (cdK K a).bases (cdK K a).mro.tail (cdK K a).hasDict (cdK K a).slotNames (cdK K a).subclasses (cdK K a).abstract (cdK K a).collection (oK K a).dict (slK K a 0) (slK K a 1) (slK K a 2) (slK K a 3) (slK K a 5) "ValueError.__new__")
  ns : NsD K (cdK K a).ns
  ini : nsFind (esK K (cdK K a).ns) "__init__" = Option.none
  tail : (cdK K a).mro.tail = veM ∨ ∃ p, (cdK K a).mro.tail = .ref p :: veM ∧ K.lookup p = some { oK K p with data := .cls (cdK K p) } ∧ NsD K (cdK K p).ns ∧ nsFind (esK K (cdK K p).ns) "__init__" = Option.none
  be : (cdK K a).mro.tail.contains (.type "BaseException") = true
  xf : xfK K a = true
  kv : kitOne K (.ref a) (.type "ValueError") = some true
theorem ExcK.at' {C : Cx} {K : Frag} {c : Nat} (X : K.In C.base) (h : ExcK K (C.clsA c)) : ExcAt C c := by
  refine ⟨⟨_, _, _, _, _, veM, _, _, _, _, _, _, _, _, _, _, _, "ValueError", "ValueError.__new__", "ValueError.__init__", _, X _ _ h.at_, h.ns.ns X, h.ini, ?_, PySem.F.excBase_ValueError, h.be⟩⟩
  rcases h.tail with e | ⟨p, e, p1, p2, p3⟩
  · rw [e]; exact .base
  · rw [e]; exact .own (X _ _ p1) (p2.ns X) p3 .base
theorem kitx_exc {K : Frag} {x D : Addr} {ox : Obj} (XF : XFacts K D) : KitX K (.ref x) (.ref D) (fun h => InstAt h x ox D Option.none) where
  ty := fun _ _ _ I => I.type
  it := fun _ _ X _ => by
    obtain ⟨cdD, hcD⟩ := Option.isSome_iff_exists.mp XF.cl
    unfold clsIn at hcD
    split at hcD
    · rename_i c' d' cd' sl' ho
      intro A' Q' E' s' k q
      unfold isType loadHead
      exact wpAny_bind (wpAny_loadPart (k _ _ (X _ _ ho)) (wpAny_pure q))
    · cases hcD
  ne := fun h tp dd its n sl X htp => by
    obtain ⟨cdD, hcD⟩ := Option.isSome_iff_exists.mp XF.cl
    refine Bool.eq_false_iff.mpr fun q => ?_
    have e : D = tp := Value.ref.inj (beq_iff_eq.mp q)
    subst e
    unfold clsIn at hcD
    split at hcD
    · rename_i c' d' cd' sl' ho
      have z := (X _ _ ho).symm.trans htp
      cases z
    · cases hcD
  ca := fun X I k => exc_class XF X I PySem.F.attr_ValueError.ga k
theorem inst_of {h : Heap} {e D : Addr} {o : Obj} {vs : Array Value} (h1 : h.get? e = some o) (h2 : o.cls = .ref D) (h3 : o.data = .fields vs) (h4 : o.dict = Option.none) : InstAt h e o D Option.none :=
  ⟨h1, h2, by unfold notCls; rw [h3], by rw [h4]; trivial⟩
theorem isiX_of {C : Cx} {K : Frag} {c : Nat} {t : Value} {b : Bool} (X : K.In C.base) (XF : XFacts K (C.clsA c)) (e : kitOne K (.ref (C.clsA c)) t = some b) : IsiX C c t b :=
  fun A Q E s e' o vs st h1 h2 h3 h4 h => kia_one (kitx_exc XF) (X.keeps st) (inst_of h1 h2 h3 h4) e (by intro q; cases q) h
theorem exmX_of {C : Cx} {K : Frag} {c d : Nat} {b : Bool} (X : K.In C.base) (e : exmOne K (.ref (C.clsA c)) (.ref (C.clsA d)) = some b) : ExmX C c d b :=
  fun A Q E s e' o vs st h1 h2 h3 h4 h => (exm_one (X.keeps st) (inst_of h1 h2 h3 h4).type e).here h
/-- a def -/
structure FnK (K : Frag) (a : Addr) (fi : FnI) (ft : FnT) : Prop where
  at_ : K.lookup a = some { oK K a with cls := .type "function", data := .func (fdK K a) }
  body : (fdK K a).body = .stmts ft.body
  scope : (fdK K a).scope = ft.sc
  globals : (fdK K a).globals = mainGlobals
  builtins : (fdK K a).builtins = builtinsNs
  closure : (fdK K a).closure = []
  cref : (fdK K a).code = .ref (adK (fdK K a).code)
  cobj : K.lookup (adK (fdK K a).code) = some { oK K (adK (fdK K a).code) with data := .fields (fsK K (adK (fdK K a).code)) }
  cnam : (fsK K (adK (fdK K a).code))[1]? = some (.str (fdK K a).qualname (tkK (((fsK K (adK (fdK K a).code))[1]?).getD .none)))
  bind : ∀ vals : List Value, vals.length = fi.arity → bindArgs (fdK K a) ⟨vals, []⟩ = pure ((ft.nms.take fi.arity).zip vals)
theorem bind1 {fd : FuncData} {r : List Value → List (Str × Value)} (h : ∀ a, bindArgs fd ⟨[a], []⟩ = pure (r [a])) (vals : List Value) (hl : vals.length = 1) : bindArgs fd ⟨vals, []⟩ = pure (r vals) := by
  obtain ⟨a, rfl⟩ := List.length_eq_one_iff.mp hl
  exact h a
theorem len_cons {n : Nat} {vals : List Value} (hl : vals.length = n + 1) : ∃ a r, vals = a :: r ∧ r.length = n := by
  cases vals with
  | nil => cases hl
  | cons a r => exact ⟨a, r, rfl, Nat.succ.inj hl⟩
theorem bind2 {fd : FuncData} {r : List Value → List (Str × Value)} (h : ∀ a b, bindArgs fd ⟨[a, b], []⟩ = pure (r [a, b])) (vals : List Value) (hl : vals.length = 2) : bindArgs fd ⟨vals, []⟩ = pure (r vals) := by
  obtain ⟨a, v1, rfl, h1⟩ := len_cons hl
  obtain ⟨b, rfl⟩ := List.length_eq_one_iff.mp h1
  exact h a b
theorem bind3 {fd : FuncData} {r : List Value → List (Str × Value)} (h : ∀ a b c, bindArgs fd ⟨[a, b, c], []⟩ = pure (r [a, b, c])) (vals : List Value) (hl : vals.length = 3) : bindArgs fd ⟨vals, []⟩ = pure (r vals) := by
  obtain ⟨a, v1, rfl, h1⟩ := len_cons hl
  obtain ⟨b, v2, rfl, h2⟩ := len_cons h1
  obtain ⟨c, rfl⟩ := List.length_eq_one_iff.mp h2
  exact h a b c
theorem bind4 {fd : FuncData} {r : List Value → List (Str × Value)} (h : ∀ a b c d, bindArgs fd ⟨[a, b, c, d], []⟩ = pure (r [a, b, c, d])) (vals : List Value) (hl : vals.length = 4) : bindArgs fd ⟨vals, []⟩ = pure (r vals) := by
  obtain ⟨a, v1, rfl, h1⟩ := len_cons hl
  obtain ⟨b, v2, rfl, h2⟩ := len_cons h1
  obtain ⟨c, v3, rfl, h3⟩ := len_cons h2
  obtain ⟨d, rfl⟩ := List.length_eq_one_iff.mp h3
  exact h a b c d
/-- everything of a text that the walk asks for, read off the written heap -/
structure KDat (K : Frag) (T : Tabs) (P : Prg) (fa ca : List Addr) : Prop where
  g : NsD K mainGlobals
  fnN : (T.fnN.zipIdx.all fun p => p.1 == Str.empty || nsFind (esK K mainGlobals) p.1 == some (.ref (fa.getD p.2 0))) = true
  clsN : (T.clsN.zipIdx.all fun p => nsFind (esK K mainGlobals) p.1 == some (.ref (ca.getD p.2 0))) = true
  bltN : (T.bltN.all fun x => nsFind (esK K mainGlobals) x == Option.none) = true
  inj : T.atN.Nodup
  ne : Str.empty ∉ T.atN
  objN : (T.atN.all fun x => fastLookup "object" x == some Option.none) = true
  lens : fa.length = P.fns.length ∧ T.fnN.length = P.fns.length ∧ ca.length = P.cls.length ∧ T.fts.length = P.fns.length
  ics : ∀ c ci, P.cls[c]? = some ci → ci.init ≠ Option.none → ClsK K T fa (ca.getD c 0) ci
  xcs : ∀ c ci, P.cls[c]? = some ci → ci.init = Option.none → ExcK K (ca.getD c 0)
  xps : ((P.cls.zip ca).all fun p => p.1.init.isSome || (P.cls.zip ca).zipIdx.all fun q => q.1.1.init.isSome || (kitOne K (.ref p.2) (.ref q.1.2) == some (p.1.sups.contains q.2) && exmOne K (.ref p.2) (.ref q.1.2) == some (p.1.sups.contains q.2))) = true
  fns : ∀ f fi ft, P.fns[f]? = some fi → T.fts[f]? = some ft → FnK K (fa.getD f 0) fi ft
  sh : ((P.fns.zip T.fts).all fun p => okF p.1 p.2) = true
def hasI (P : Prg) (b : Bool) (c : Nat) : Bool := match P.cls[c]? with | some ci => ci.init.isSome == b | Option.none => false
theorem hasI_of {P : Prg} {b : Bool} {c : Nat} (h : hasI P b c = true) : ∃ ci, P.cls[c]? = some ci ∧ ci.init.isSome = b := by
  unfold hasI at h
  cases e : P.cls[c]? with
  | none => rw [e] at h; cases h
  | some ci => rw [e] at h; exact ⟨ci, rfl, beq_iff_eq.mp h⟩
theorem hasI_mk {P : Prg} {b : Bool} {c : Nat} {ci : ClsI} (h : P.cls[c]? = some ci) (h' : ci.init.isSome = b) : c ∈ (List.range P.cls.length).filter (hasI P b) := by
  refine List.mem_filter.mpr ⟨List.mem_range.mpr (List.getElem?_eq_some_iff.mp h).1, ?_⟩
  unfold hasI
  rw [h]
  exact beq_iff_eq.mpr h'
def cxOf (prog : Program) (w : World) (h : Heap) (mg mb : Str → Option Value) (T : Tabs) (P : Prg) (fa ca : List Addr) : Cx where
  prog := prog
  w := w
  base := h
  clsA := fun c => ca.getD c 0
  fnA := fun f => fa.getD f 0
  nm := fun k => T.atN.getD k Str.empty
  mg := mg
  mb := mb
  ics := (List.range P.cls.length).filter (hasI P true)
  xcs := (List.range P.cls.length).filter (hasI P false)
theorem zip_get {α β : Type} {l : List α} {r : List β} {i : Nat} {a : α} {b : β} (h1 : l[i]? = some a) (h2 : r[i]? = some b) : (a, b) ∈ l.zip r :=
  List.mem_of_getElem? (i := i) (List.getElem?_zip_eq_some.mpr ⟨h1, h2⟩)
theorem getD_of {l : List Nat} {i d : Nat} (h : i < l.length) : l[i]? = some (l.getD i d) := by
  rw [List.getD_eq_getElem?_getD, List.getElem?_eq_getElem h]; rfl
theorem cxOk_of {K : Frag} {T : Tabs} {P : Prg} {fa ca : List Addr} {prog : Program} {w : World} {h : Heap} {mg mb : Str → Option Value} (X : K.In h) (g : h.Ns mainGlobals mg) (b : h.Ns builtinsNs mb) (nl : h.NoLimit)
    (bt : ∀ x : Str, x ≠ "__name__" → mb x = bootBuiltins x) (D : KDat K T P fa ca) : CxOk (cxOf prog w h mg mb T P fa ca) T P := by
  obtain ⟨l1, l2, l3, l4⟩ := D.lens
  have gv : ∀ x r, nsFind (esK K mainGlobals) x = r → mg x = r := fun x r e => (ns_uniq g (D.g.ns X) x).trans e
  have xc : ∀ c ∈ (cxOf prog w h mg mb T P fa ca).xcs, ∃ ci, P.cls[c]? = some ci ∧ ci.init = Option.none := fun c hc => by
    obtain ⟨ci, h1, h2⟩ := hasI_of (List.mem_filter.mp hc).2
    refine ⟨ci, h1, ?_⟩
    cases e : ci.init with
    | none => rfl
    | some f => rw [e] at h2; cases h2
  have xp : ∀ c ∈ (cxOf prog w h mg mb T P fa ca).xcs, ∀ d ∈ (cxOf prog w h mg mb T P fa ca).xcs, ∀ ci, P.cls[c]? = some ci → kitOne K (.ref (ca.getD c 0)) (.ref (ca.getD d 0)) = some (ci.sups.contains d) ∧ exmOne K (.ref (ca.getD c 0)) (.ref (ca.getD d 0)) = some (ci.sups.contains d) := fun c hc d hd ci hci => by
    obtain ⟨ci', y1, y2⟩ := xc c hc
    rw [hci] at y1
    cases y1
    obtain ⟨cj, z1, z2⟩ := xc d hd
    have lc : c < ca.length := by rw [l3]; exact (List.getElem?_eq_some_iff.mp hci).1
    have ld : d < ca.length := by rw [l3]; exact (List.getElem?_eq_some_iff.mp z1).1
    have := List.all_eq_true.mp D.xps _ (zip_get hci (getD_of (d := 0) lc))
    rw [y2, Option.isSome_none, Bool.false_or] at this
    have hz : ((cj, ca.getD d 0), d) ∈ (P.cls.zip ca).zipIdx := List.mem_zipIdx_iff_getElem?.mpr (List.getElem?_zip_eq_some.mpr ⟨z1, getD_of ld⟩)
    have := List.all_eq_true.mp this _ hz
    rw [z2, Option.isSome_none, Bool.false_or, Bool.and_eq_true, beq_iff_eq, beq_iff_eq] at this
    exact this
  refine
  { g := g, b := b, nolimit := nl, builtins := bt
    fnN := fun f x e ne => ?_, clsN := fun c x e => ?_, bltN := fun x hx => ?_, nm := fun _ => rfl, inj := D.inj, ne := D.ne, objN := fun x hx => ?_, fnF := fun f hf => ?_,
    cls := fun c hc => ?_, ics := fun c ci hc hi => ?_, xcs := fun c ci hc hi => ?_, isiC := fun c hc d hd ci hci => ?_, isiV := fun c hc => ?_, exm := fun c hc d hd ci hci => ?_, exc := fun c hc => ?_, fns := fun f fi hf => ?_ }
  · have := List.all_eq_true.mp D.fnN (x, f) (List.mem_zipIdx_iff_getElem?.mpr e)
    rw [Bool.or_eq_true, beq_iff_eq, beq_iff_eq] at this
    exact gv _ _ (this.resolve_left ne)
  · have := List.all_eq_true.mp D.clsN (x, c) (List.mem_zipIdx_iff_getElem?.mpr e)
    rw [beq_iff_eq] at this
    exact gv _ _ this
  · have := List.all_eq_true.mp D.bltN x hx
    rw [beq_iff_eq] at this
    exact gv _ _ this
  · have := List.all_eq_true.mp D.objN x hx
    rw [beq_iff_eq] at this
    rw [typeLookup_type, builtinLookup_eq_fast, this]
  · have hp : f < P.fns.length := by omega
    exact ⟨_, _, X _ _ (D.fns f _ _ (List.getElem?_eq_getElem hp) (List.getElem?_eq_getElem (by omega))).at_, rfl, rfl⟩
  · obtain ⟨ci, h1, h2⟩ := hasI_of (List.mem_filter.mp hc).2
    have k := D.ics c ci h1 (fun e => by rw [e] at h2; cases h2)
    refine ⟨ci, h1, ⟨⟨_, _, _, _, _, _, _, _, _, _, _, _, _, _, X _ _ k.at_, k.ns.ns X, k.ga, k.gt, k.sa, k.ini, fun m f hm => ?_, fun m hm hl => ?_⟩⟩⟩
    · exact beq_iff_eq.mp (List.all_eq_true.mp k.ms (m, f) (lookup_mem hm))
    · have := List.all_eq_true.mp k.no m (List.mem_range.mpr hl)
      rw [hm, Option.isSome_none, Bool.false_or] at this
      exact beq_iff_eq.mp this
  · refine hasI_mk hc ?_
    cases z : ci.init with
    | none => exact absurd z hi
    | some f => rfl
  · refine hasI_mk hc ?_
    rw [hi]; rfl
  · obtain ⟨ci', y1, y2⟩ := xc c hc
    exact isiX_of X (xfK_of (D.xcs c ci' y1 y2).xf) (xp c hc d hd ci hci).1
  · obtain ⟨ci', y1, y2⟩ := xc c hc
    exact isiX_of X (xfK_of (D.xcs c ci' y1 y2).xf) (D.xcs c ci' y1 y2).kv
  · exact exmX_of X (xp c hc d hd ci hci).2
  · obtain ⟨ci', y1, y2⟩ := xc c hc
    exact (D.xcs c ci' y1 y2).at' X
  · have hp := (List.getElem?_eq_some_iff.mp hf).1
    have ht : T.fts[f]? = some T.fts[f] := List.getElem?_eq_getElem (by omega)
    have k := D.fns f fi _ hf ht
    exact ⟨_, ht, ⟨⟨_, _, X _ _ k.at_, rfl, rfl, k.body, k.scope, k.globals, k.builtins, k.closure, ⟨_, _, _, _, k.cref, X _ _ k.cobj, rfl, k.cnam⟩, k.bind⟩⟩⟩
theorem wellInts {P : Params} {h : Heap} {C : Cx} {Z : Nat → Prop} : ∀ {ns : List Int} {vs : List Value}, WellAll P h vs (ns.map fun n => WData.int n) → VRs C Z h (ns.map .int) vs
  | [], _, x => by cases x; exact .nil
  | n :: ns, _, x => by
    cases x with
    | cons hd tl => cases hd; exact .cons (.int _ _) (wellInts tl)
theorem ofPy_ints (ns : List Int) : ofPy (.list (ns.map .int)) = .list (ns.map fun n => WData.int n) := by
  have h : ∀ l : List Int, ofPys (l.map .int) = l.map fun n => WData.int n := fun l => by
    induction l with
    | nil => rfl
    | cons n l ih =>
      show ofPy (.int n) :: ofPys (l.map .int) = _
      rw [ih]; rfl
  show WData.list (ofPys (ns.map .int)) = _
  rw [h]
theorem law_end {K : Frag} {T : Tabs} {P : Prg} {fa ca : List Addr} {prog : Program} {w : World} {s₁ : Shared} {mg mb : Str → Option Value} {p : Params} (X : K.In s₁.heap) (g : s₁.heap.Ns mainGlobals mg) (b : s₁.heap.Ns builtinsNs mb) (nl : s₁.heap.NoLimit)
    (bt : ∀ x : Str, x ≠ "__name__" → mb x = bootBuiltins x) (D : KDat K T P fa ca) (hB : ∀ C, CxOk C T P → ∀ (F : Calls) (d : Nat), SndF C P d F → ∀ (f : Nat) (fi : FnI) (ft : FnT), P.fns[f]? = some fi → T.fts[f]? = some ft → BothB C d ft.sc ft.nms fi.quiet (fi.body F) ft.body)
    (hg : s₁.gens = #[]) {f : Nat} {l : Addr} {ns : List Int} (hW : Well p s₁.heap (.ref l) (.list (ns.map fun n => WData.int n))) (hn : ns.length ≤ 63) {d : Nat} (hd : d ≤ 100)
    (hw : wpF P d f [.ilist (ns.map .int)] (fun _ => Option.none) (fun v _ => v = .bool true) fun _ _ => False) :
    codeAny (model prog w) callerA (.call (.ref (fa.getD f 0)) ⟨[.ref l], []⟩) (fun r s' => r = .ok (.ret (.bool true)) ∧ (∀ b o, s₁.heap.get? b = some o → s'.heap.get? b = some o) ∧ s'.os = s₁.os ∧ s'.gens = #[]) s₁ := by
  have CX := cxOk_of (prog := prog) (w := w) X g b nl bt D
  have F := wpF_snd CX (fun f fi ft h1 h2 => List.all_eq_true.mp D.sh (fi, ft) (zip_get h1 h2)) (hB _ CX) d
  have G : Good (cxOf prog w s₁.heap mg mb T P fa ca) ⟨[], [], []⟩ (fun _ => Option.none) (fun _ => Option.none) s₁ :=
    ⟨fun _ _ e => e, trivial, fun b m => absurd m (by simp), fun b m => absurd m (by simp [zss]), fun e m => absurd m (by simp), fun a o e => by simp at e, fun b a e => by simp at e, fun a e => by simp at e, fun L m => absurd m (by simp [zss]), hg⟩
  cases hW with
  | list at_ all =>
    have hr := wellInts (C := cxOf prog w s₁.heap mg mb T P fa ca) (Z := Zs (fun _ => Option.none) (fun _ => Option.none) (zss ⟨[], [], []⟩)) all
    have hl := hr.length
    rw [List.length_map] at hl
    refine F f [.ilist (ns.map .int)] [.ref l] _ _ s₁ _ _ _ callerA ⟨[], [], []⟩ hw G ⟨rfl, ?_, ?_⟩ (.inl rfl) (.cons (.ilist ⟨by omega, _, at_⟩ ?_ hr) .nil) (fun v av σ' ow' s' q st g' r => ?_) (fun e c σ' ow' s' q => q.elim)
    · show 1 + claimMargin + 3 * d < recursionLimit
      have : 1 + claimMargin + 300 < recursionLimit := by decide
      omega
    · show 4 + 20 * d + 100 < cLine
      have : 4 + 2000 + 100 < cLine := by decide
      omega
    · rintro (z | z)
      · rcases z with z | z <;> simp at z
      · simp [zss] at z
    · subst q
      cases r
      exact ⟨rfl, fun b o e => g'.stays b o e, st.os, g'.gens⟩
/-! ### the defs of a text, by their places -/
def bdAt (l : List Stmt) (i : Nat) : List Stmt := match l[i]? with | some (.FunctionDef _ _ body _ _ _ _ _ _ _) => body | _ => []
def scAt (l : List Stmt) (i : Nat) : Scope := match l[i]? with | some (.FunctionDef _ _ _ _ _ _ sc _ _ _) => sc | _ => default
def clAt (l : List Stmt) (i : Nat) : List Stmt := match l[i]? with | some (.ClassDef _ _ _ body _ _ _ _ _ _ _) => body | _ => []
theorem boot_int : bootBuiltins (Str.ofString "int") = some (tyV .int) := by decide +kernel
theorem boot_bool : bootBuiltins (Str.ofString "bool") = some (tyV .bool) := by decide +kernel
theorem boot_tuple : bootBuiltins (Str.ofString "tuple") = some (tyV .tuple) := by decide +kernel
theorem boot_ValueError : bootBuiltins (Str.ofString "ValueError") = some (.type "ValueError") := by decide +kernel
theorem bok_Len {C : Cx} : BiOk C true (Str.ofString "len") oLen := ⟨⟨_, by decide +kernel, .inl ⟨_, rfl⟩, bi_len⟩⟩
theorem bok_Min3 {C : Cx} : BiOk C false (Str.ofString "min") oMin3 := ⟨⟨_, by decide +kernel, .inl ⟨_, rfl⟩, bi_min3⟩⟩
theorem bok_Max2 {C : Cx} : BiOk C false (Str.ofString "max") oMax2 := ⟨⟨_, by decide +kernel, .inl ⟨_, rfl⟩, bi_max2⟩⟩
theorem bok_IntB {C : Cx} : BiOk C true (Str.ofString "int") oIntB := ⟨⟨_, by decide +kernel, .inr ⟨_, rfl⟩, bi_intB⟩⟩
/-- of each of a list -/
def AllI {α : Type} (P : Nat → α → Prop) : Nat → List α → Prop
  | _, [] => True
  | n, x :: r => P n x ∧ AllI P (n + 1) r
theorem AllI.get {α : Type} {P : Nat → α → Prop} : ∀ {l : List α} {n : Nat}, AllI P n l → ∀ i x, l[i]? = some x → P (n + i) x := by
  intro l
  induction l with
  | nil => intro n h i x e; cases e
  | cons y r ih =>
    intro n h i x e
    cases i with
    | zero => cases e; exact h.1
    | succ i => have := ih h.2 i x e; rw [show n + 1 + i = n + (i + 1) by omega] at this; exact this
theorem AllI.at0 {α : Type} {P : Nat → α → Prop} {l : List α} (h : AllI P 0 l) (i : Nat) (x : α) (e : l[i]? = some x) : P i x := by
  have := h.get i x e
  rwa [Nat.zero_add] at this
end
end Ap
end
section
open PySem PySem.W PyProof.Rows
set_option Elab.async false
set_option maxRecDepth 100000
set_option maxHeartbeats 8000000
namespace Ap
open_top hd02 for PySem.Challenge.rw_uf020020_02
end Ap
end
section
set_option Elab.async false
set_option maxRecDepth 100000
set_option linter.unusedVariables false
namespace Ap.L02
open PySem
def clss : List ClsI := [⟨Option.none, [], [0]⟩, ⟨Option.none, [], [1, 0]⟩, ⟨Option.none, [], [2, 0]⟩, ⟨Option.none, [], [3, 0]⟩, ⟨Option.none, [], [4, 0]⟩, ⟨Option.none, [], [5, 0]⟩, ⟨Option.none, [], [6, 0]⟩, ⟨Option.none, [], [7, 0]⟩, ⟨Option.none, [], [8, 0]⟩, ⟨some 1, [(5, 2), (6, 3), (7, 4)], []⟩]
def w0 (F : Calls) : WS := (bCons (sRet (vBl (blCons true (vO1 (oIsi .int) (vVar 0)) (blCons true (vO1 oNot (vO1 (oIsi .bool) (vVar 0))) (blCons true (vCmp (vVar 1) (cCons cLe (vVar 0) (cCons cLe (vVar 2) cNil))) (blNil true)))))) bNil)
def w1 (F : Calls) : WS := (bCons (sSetAttr (vVar 0) 9 0 (vVar 1)) (bCons (sSetAttr (vVar 0) 9 1 (vVar 2)) (bCons (sSetAttr (vVar 0) 9 2 (vVar 3)) (bCons (sSetAttr (vVar 0) 9 3 (vC (.int 0))) (bCons (sSetAttr (vVar 0) 9 4 (vC (.int 0))) bNil)))))
def w2 (F : Calls) : WS := (bCons (sRet (vTup (lCons (vO1 (oAttr 9 3) (vVar 0)) (lCons (vO1 (oAttr 9 4) (vVar 0)) lNil)))) bNil)
def w3 (F : Calls) : WS := (bCons (sAssign 2 (vON oMin3 (lCons (vO1 (oAttr 9 4) (vVar 0)) (lCons (vO2 oSub (vO2 oAdd (vO1 (oAttr 9 3) (vVar 0)) (vO1 (oAttr 9 0) (vVar 0))) (vC (.int 1))) (lCons (vO2 oSub (vO1 (oAttr 9 2) (vVar 0)) (vC (.int 1))) lNil))))) (bCons (sIte (vO1 oNot (vCall F 0 (lCons (vVar 1) (lCons (vO1 (oAttr 9 3) (vVar 0)) (lCons (vVar 2) lNil))))) (bCons (sRais 5) bNil) bNil) (bCons (sIte (vCmp (vVar 1) (cCons cEq (vO1 (oAttr 9 4) (vVar 0)) cNil)) (bCons (sSetAttr (vVar 0) 9 4 (vO2 oAdd (vVar 1) (vC (.int 1)))) bNil) bNil) (bCons (sRet (vO2 oMod (vVar 1) (vO1 (oAttr 9 1) (vVar 0)))) bNil))))
def w4 (F : Calls) : WS := (bCons (sAssign 2 (vO2 oMod (vO2 oSub (vVar 1) (vO1 (oAttr 9 3) (vVar 0))) (vO1 (oAttr 9 1) (vVar 0)))) (bCons (sIte (vCmp (vO2 oAdd (vO1 (oAttr 9 3) (vVar 0)) (vVar 2)) (cCons cLe (vO1 (oAttr 9 4) (vVar 0)) cNil)) (bCons (sSetAttr (vVar 0) 9 3 (vO2 oAdd (vO1 (oAttr 9 3) (vVar 0)) (vVar 2))) bNil) bNil) bNil))
def w5 (F : Calls) : WS := (bCons (sIte (vCmp (vVar 1) (cCons cLt (vON oLen (lCons (vVar 0) lNil)) cNil)) (bCons (sRet (vO2 oIdxL (vVar 0) (vVar 1))) bNil) bNil) (bCons (sRet (vC (.int 0))) bNil))
def w6 (F : Calls) : WS := (bCons (sRet (vO2 oMod (vO2 oAdd (vO2 oMul (vVar 0) (vC (.int 48271))) (vO2 oMul (vO2 oMul (vC (.int 7919)) (vO2 oAdd (vVar 1) (vC (.int 1)))) (vO2 oAdd (vVar 1) (vC (.int 3))))) (vC (.int 2147483647)))) bNil)
def w7 (F : Calls) : WS := (bCons (sRet (vBl (blCons true (vO1 (oIsi .int) (vVar 0)) (blCons true (vO1 oNot (vO1 (oIsi .bool) (vVar 0))) (blNil true))))) bNil)
def w8 (F : Calls) : WS := (bCons (sAssign 1 (vO2 oMulS (vC (.str (Str.ofString "now"))) (vON oIntB (lCons (vO1 (oIsiX clss 5) (vVar 0)) lNil)))) (bCons (sFor 2 (vLst false (lCons (vO1 (oIsiX clss 1) (vVar 0)) (lCons (vO1 (oIsiX clss 2) (vVar 0)) (lCons (vO1 (oIsiX clss 3) (vVar 0)) lNil)))) (bCons (sAssign 1 (vO2 oAddS (vVar 1) (vO2 oMulS (vC (.str (Str.ofString "x"))) (vON oIntB (lCons (vVar 2) lNil))))) bNil)) (bCons (sFor 2 (vLst false (lCons (vO1 (oIsiX clss 4) (vVar 0)) (lCons (vO1 (oIsiX clss 6) (vVar 0)) (lCons (vO1 (oIsiX clss 7) (vVar 0)) lNil)))) (bCons (sAssign 1 (vO2 oAddS (vVar 1) (vO2 oMulS (vC (.str (Str.ofString "x"))) (vON oIntB (lCons (vVar 2) lNil))))) bNil)) (bCons (sRet (vO2 oMulS (vO2 oAddS (vVar 1) (vO2 oMulS (vC (.str (Str.ofString "x"))) (vON oIntB (lCons (vO1 (oIsiX clss 8) (vVar 0)) lNil)))) (vON oIntB (lCons (vO1 oIsiV (vVar 0)) lNil)))) bNil))))
def w9 (F : Calls) : WS := (bCons (sTry (bCons (sRet (vTup (lCons (vC (.str (Str.ofString "told"))) (lCons (vMeth F 9 6 3 (vVar 0) (lCons (vVar 1) lNil)) lNil)))) bNil) (hCons clss 0 2 (bCons (sRet (vTup (lCons (vC (.str (Str.ofString "refused"))) (lCons (vCall F 8 (lCons (vVar 2) lNil)) lNil)))) bNil) hNil)) bNil)
def w10 (F : Calls) : WS := (bCons (sAssign 3 (vMeth F 9 5 2 (vVar 0) lNil)) (bCons (sRet (vBl (blCons true (vO1 (oIsi .tuple) (vVar 3)) (blCons true (vCmp (vVar 3) (cCons cEq (vTup (lCons (vVar 1) (lCons (vVar 2) lNil))) cNil)) (blCons true (vCall F 7 (lCons (vO2 oIdxT (vVar 3) (vC (.int 0))) lNil)) (blCons true (vCall F 7 (lCons (vO2 oIdxT (vVar 3) (vC (.int 1))) lNil)) (blNil true))))))) bNil))
def w11 (F : Calls) : WS := (bCons (sAssign 1 (vCall F 6 (lCons (vCall F 5 (lCons (vVar 0) (lCons (vC (.int 0)) lNil))) (lCons (vC (.int 0)) lNil)))) (bCons (sAssign 2 (vO2 oAdd (vC (.int 1)) (vO2 oMod (vVar 1) (vO2 oIdxL (vLst false (lCons (vC (.int 4)) (lCons (vC (.int 20)) lNil))) (vO2 oMod (vO2 oFdiv (vVar 1) (vC (.int 20))) (vC (.int 2))))))) (bCons (sAssign 3 (vO2 oAdd (vC (.int 1)) (vO2 oMod (vCall F 6 (lCons (vCall F 5 (lCons (vVar 0) (lCons (vC (.int 1)) lNil))) (lCons (vC (.int 1)) lNil))) (vO2 oIdxL (vLst false (lCons (vO2 oAdd (vVar 2) (vC (.int 4))) (lCons (vC (.int 45)) lNil))) (vO2 oMod (vO2 oFdiv (vVar 1) (vC (.int 40))) (vC (.int 2))))))) (bCons (sAssign 4 (vO2 oMod (vCall F 6 (lCons (vCall F 5 (lCons (vVar 0) (lCons (vC (.int 2)) lNil))) (lCons (vC (.int 2)) lNil))) (vC (.int 31)))) (bCons (sAssign 5 (vNew F 9 1 (lCons (vVar 2) (lCons (vVar 3) (lCons (vVar 4) lNil))))) (bCons (sAssign 6 (vNew F 9 1 (lCons (vVar 2) (lCons (vVar 3) (lCons (vVar 4) lNil))))) (bCons (sAssign 7 (vC (.int 0))) (bCons (sAssign 8 (vC (.int 0))) (bCons (sIte (vO1 oNot (vCall F 10 (lCons (vVar 5) (lCons (vC (.int 0)) (lCons (vC (.int 0)) lNil))))) (bCons (sRet (vC (.bool false))) bNil) bNil) (bCons (sFor 9 (vO1 (oSl false 3 43) (vVar 0)) (bCons (sAssign 10 (vO2 oFdiv (vVar 9) (vC (.int 3)))) (bCons (sIte (vCmp (vO2 oMod (vVar 9) (vC (.int 3))) (cCons cLt (vC (.int 2)) cNil)) (bCons (sAssign 11 (vLst false (lCons (vVar 8) (lCons (vO2 oAdd (vVar 7) (vO2 oMod (vO2 oFdiv (vVar 10) (vC (.int 4))) (vVar 2))) (lCons (vO2 oSub (vVar 7) (vC (.int 1))) (lCons (vO2 oAdd (vVar 7) (vVar 2)) (lCons (vO2 oAdd (vVar 8) (vC (.int 1))) (lCons (vVar 4) lNil)))))))) (bCons (sAssign 12 (vO2 oIdxL (vVar 11) (vO2 oIdxL (vLst false (lCons (vC (.int 0)) (lCons (vC (.int 0)) (lCons (vC (.int 1)) (lCons (vC (.int 1)) (lCons (vC (.int 2)) (lCons (vC (.int 3)) (lCons (vC (.int 4)) (lCons (vC (.int 5)) lNil))))))))) (vO2 oMod (vVar 10) (vC (.int 8)))))) (bCons (sIte (vBl (blCons true (vCmp (vVar 7) (cCons cLe (vVar 12) (cCons cLe (vVar 8) cNil))) (blCons true (vCmp (vVar 12) (cCons cLt (vO2 oAdd (vVar 7) (vVar 2)) cNil)) (blCons true (vCmp (vVar 12) (cCons cLt (vVar 4) cNil)) (blNil true))))) (bCons (sAssign 13 (vCall F 9 (lCons (vVar 5) (lCons (vVar 12) lNil)))) (bCons (sIte (vBl (blCons false (vCmp (vVar 13) (cCons cNe (vTup (lCons (vC (.str (Str.ofString "told"))) (lCons (vO2 oMod (vVar 12) (vVar 3)) lNil))) cNil)) (blCons false (vO1 oNot (vCall F 7 (lCons (vO2 oIdxT (vVar 13) (vC (.int 1))) lNil))) (blNil false)))) (bCons (sRet (vC (.bool false))) bNil) bNil) (bCons (sAssign 8 (vON oMax2 (lCons (vVar 8) (lCons (vO2 oAdd (vVar 12) (vC (.int 1))) lNil)))) bNil))) (bCons (sIte (vCmp (vCall F 9 (lCons (vVar 5) (lCons (vVar 12) lNil))) (cCons cNe (vTup (lCons (vC (.str (Str.ofString "refused"))) (lCons (vC (.str (Str.ofString "now"))) lNil))) cNil)) (bCons (sRet (vC (.bool false))) bNil) bNil) bNil)) bNil))) (bCons (sAssign 14 (vO2 oIdxL (vLst false (lCons (vO2 oMod (vVar 10) (vVar 3)) (lCons (vO2 oMod (vO2 oAdd (vVar 7) (vO2 oMod (vO2 oFdiv (vVar 10) (vC (.int 5))) (vO2 oAdd (vO2 oSub (vVar 8) (vVar 7)) (vC (.int 1))))) (vVar 3)) lNil))) (vO2 oMod (vO2 oFdiv (vO2 oMod (vVar 10) (vC (.int 5))) (vC (.int 2))) (vC (.int 2))))) (bCons (sAssign 15 (vO2 oMod (vO2 oSub (vVar 14) (vVar 7)) (vVar 3))) (bCons (sIte (vCmp (vMeth F 9 7 4 (vVar 5) (lCons (vVar 14) lNil)) (cCons cIsn (vC .none) cNil)) (bCons (sRet (vC (.bool false))) bNil) bNil) (bCons (sIte (vCmp (vO2 oAdd (vVar 7) (vVar 15)) (cCons cLe (vVar 8) cNil)) (bCons (sAssign 7 (vO2 oAdd (vVar 7) (vVar 15))) bNil) bNil) bNil))))) (bCons (sIte (vBl (blCons true (vCmp (vO2 oMod (vO2 oFdiv (vVar 9) (vC (.int 24))) (vC (.int 3))) (cCons cGt (vC (.int 0)) cNil)) (blCons true (vO1 oNot (vCall F 10 (lCons (vVar 5) (lCons (vVar 7) (lCons (vVar 8) lNil))))) (blNil true)))) (bCons (sRet (vC (.bool false))) bNil) bNil) bNil)))) (bCons (sAssign 16 (vO2 oIdxL (vLst false (lCons (vC .none) (lCons (vC (.bool true)) (lCons (vC (.str (Str.ofString "0"))) (lCons (vLst false (lCons (vVar 7) lNil)) (lCons (vTup (lCons (vVar 7) lNil)) (lCons (vO1 oNeg (vC (.int 1))) (lCons (vC (.bool false)) (lCons (vO2 oAdd (vVar 7) (vO2 oPow (vC (.int 10)) (vC (.int 6)))) lNil))))))))) (vO2 oMod (vCall F 5 (lCons (vVar 0) (lCons (vC (.int 2)) lNil))) (vC (.int 8))))) (bCons (sIte (vBl (blCons false (vCmp (vCall F 9 (lCons (vVar 5) (lCons (vVar 16) lNil))) (cCons cNe (vTup (lCons (vC (.str (Str.ofString "refused"))) (lCons (vC (.str (Str.ofString "now"))) lNil))) cNil)) (blCons false (vO1 oNot (vCall F 10 (lCons (vVar 5) (lCons (vVar 7) (lCons (vVar 8) lNil))))) (blNil false)))) (bCons (sRet (vC (.bool false))) bNil) bNil) (bCons (sRet (vCall F 10 (lCons (vVar 6) (lCons (vC (.int 0)) (lCons (vC (.int 0)) lNil))))) bNil)))))))))))))
def fn0 : FnI := ⟨false, 3, 3, w0⟩
def fn1 : FnI := ⟨false, 4, 4, w1⟩
def fn2 : FnI := ⟨false, 1, 1, w2⟩
def fn3 : FnI := ⟨false, 2, 3, w3⟩
def fn4 : FnI := ⟨false, 2, 3, w4⟩
def fn5 : FnI := ⟨false, 2, 2, w5⟩
def fn6 : FnI := ⟨false, 2, 2, w6⟩
def fn7 : FnI := ⟨false, 1, 1, w7⟩
def fn8 : FnI := ⟨true, 1, 3, w8⟩
def fn9 : FnI := ⟨false, 2, 3, w9⟩
def fn10 : FnI := ⟨false, 3, 4, w10⟩
def fn11 : FnI := ⟨false, 1, 17, w11⟩
def prg : Prg := ⟨[fn0, fn1, fn2, fn3, fn4, fn5, fn6, fn7, fn8, fn9, fn10, fn11], clss, []⟩
end Ap.L02
end
section
set_option Elab.async false
set_option maxRecDepth 100000
set_option maxHeartbeats 4000000
set_option linter.unusedVariables false
namespace Ap.L02
open PySem
abbrev prog : Program := PySem.Challenge.pw_uf020020_02
def nm0 : List Str := [Str.ofString "thing", Str.ofString "low", Str.ofString "high"]
def nm1 : List Str := [Str.ofString "self", Str.ofString "window", Str.ofString "ring", Str.ofString "many"]
def nm2 : List Str := [Str.ofString "self"]
def nm3 : List Str := [Str.ofString "self", Str.ofString "k", Str.ofString "last"]
def nm4 : List Str := [Str.ofString "self", Str.ofString "number", Str.ofString "step"]
def nm5 : List Str := [Str.ofString "_law_script", Str.ofString "_law_k"]
def nm6 : List Str := [Str.ofString "_law_cell", Str.ofString "_law_k"]
def nm7 : List Str := [Str.ofString "_law_thing"]
def nm8 : List Str := [Str.ofString "_law_error", Str.ofString "_law_word_here", Str.ofString "_law_is_other"]
def nm9 : List Str := [Str.ofString "_law_sender", Str.ofString "_law_k", Str.ofString "_law_error"]
def nm10 : List Str := [Str.ofString "_law_sender", Str.ofString "_law_base", Str.ofString "_law_top", Str.ofString "_law_found"]
def nm11 : List Str := [Str.ofString "_law_script", Str.ofString "_law_one", Str.ofString "_law_window", Str.ofString "_law_ring", Str.ofString "_law_many", Str.ofString "_law_sender", Str.ofString "_law_other", Str.ofString "_law_base", Str.ofString "_law_top", Str.ofString "_law_cell", Str.ofString "_law_more", Str.ofString "_law_some", Str.ofString "_law_k", Str.ofString "_law_found", Str.ofString "_law_number", Str.ofString "_law_step", Str.ofString "_law_odd"]
def ft0 : FnT := ⟨nm0, scAt prog.main.body 11, bdAt prog.main.body 11⟩
def ft1 : FnT := ⟨nm1, scAt (clAt prog.main.body 13) 0, bdAt (clAt prog.main.body 13) 0⟩
def ft2 : FnT := ⟨nm2, scAt (clAt prog.main.body 13) 1, bdAt (clAt prog.main.body 13) 1⟩
def ft3 : FnT := ⟨nm3, scAt (clAt prog.main.body 13) 2, bdAt (clAt prog.main.body 13) 2⟩
def ft4 : FnT := ⟨nm4, scAt (clAt prog.main.body 13) 3, bdAt (clAt prog.main.body 13) 3⟩
def ft5 : FnT := ⟨nm5, scAt prog.main.body 15, bdAt prog.main.body 15⟩
def ft6 : FnT := ⟨nm6, scAt prog.main.body 16, bdAt prog.main.body 16⟩
def ft7 : FnT := ⟨nm7, scAt prog.main.body 17, bdAt prog.main.body 17⟩
def ft8 : FnT := ⟨nm8, scAt prog.main.body 18, bdAt prog.main.body 18⟩
def ft9 : FnT := ⟨nm9, scAt prog.main.body 19, bdAt prog.main.body 19⟩
def ft10 : FnT := ⟨nm10, scAt prog.main.body 20, bdAt prog.main.body 20⟩
def ft11 : FnT := ⟨nm11, scAt prog.main.body 21, bdAt prog.main.body 21⟩
def tabs : Tabs := ⟨[ft0, ft1, ft2, ft3, ft4, ft5, ft6, ft7, ft8, ft9, ft10, ft11], [Str.ofString "is_among", Str.ofString "", Str.ofString "", Str.ofString "", Str.ofString "", Str.ofString "_law_at", Str.ofString "_law_mixed", Str.ofString "_law_whole", Str.ofString "_law_word", Str.ofString "_law_said", Str.ofString "_law_span", Str.ofString "law"], [Str.ofString "PostError", Str.ofString "BadBounds", Str.ofString "BadRing", Str.ofString "BadTexts", Str.ofString "BadStep", Str.ofString "NotNow", Str.ofString "NoLetter", Str.ofString "Safe", Str.ofString "NoLine", Str.ofString "Sender"], [Str.ofString "window", Str.ofString "ring", Str.ofString "many", Str.ofString "base", Str.ofString "top", Str.ofString "span", Str.ofString "sent", Str.ofString "heard"], [Str.ofString "ValueError", Str.ofString "bool", Str.ofString "int", Str.ofString "isinstance", Str.ofString "len", Str.ofString "max", Str.ofString "min", Str.ofString "tuple"]⟩
theorem b0 {C : Cx} (X : CxOk C tabs prg) {F : Calls} {d : Nat} (hF : SndF C prg d F) : BothB C d ft0.sc ft0.nms false (w0 F) ft0.body := by
  have v0 : ∀ pos, Both C d ft0.sc ft0.nms false (vVar 0) (.Name (Str.ofString "thing") pos) := fun _ => .var (by kernel_rfl) (by kernel_rfl) (by kernel_rfl)
  have v1 : ∀ pos, Both C d ft0.sc ft0.nms false (vVar 1) (.Name (Str.ofString "low") pos) := fun _ => .var (by kernel_rfl) (by kernel_rfl) (by kernel_rfl)
  have v2 : ∀ pos, Both C d ft0.sc ft0.nms false (vVar 2) (.Name (Str.ofString "high") pos) := fun _ => .var (by kernel_rfl) (by kernel_rfl) (by kernel_rfl)
  exact (BothB.cons (BothS.ret (Both.and (BothBl.cons (Both.isi (t := .int) X (v0 _) rfl (by kernel_rfl) (by decide +kernel) (by kernel_rfl) boot_int (by decide +kernel) (by kernel_rfl)) (BothBl.cons (Both.not (Both.isi (t := .bool) X (v0 _) rfl (by kernel_rfl) (by decide +kernel) (by kernel_rfl) boot_bool (by decide +kernel) (by kernel_rfl))) (BothBl.one (Both.cmp (v1 _) (BothC.cons cmp_le (v0 _) (BothC.one cmp_le (v2 _))) rfl)))))) BothB.nil)
theorem b1 {C : Cx} (X : CxOk C tabs prg) {F : Calls} {d : Nat} (hF : SndF C prg d F) : BothB C d ft1.sc ft1.nms false (w1 F) ft1.body := by
  have v0 : ∀ pos, Both C d ft1.sc ft1.nms false (vVar 0) (.Name (Str.ofString "self") pos) := fun _ => .var (by kernel_rfl) (by kernel_rfl) (by kernel_rfl)
  have v1 : ∀ pos, Both C d ft1.sc ft1.nms false (vVar 1) (.Name (Str.ofString "window") pos) := fun _ => .var (by kernel_rfl) (by kernel_rfl) (by kernel_rfl)
  have v2 : ∀ pos, Both C d ft1.sc ft1.nms false (vVar 2) (.Name (Str.ofString "ring") pos) := fun _ => .var (by kernel_rfl) (by kernel_rfl) (by kernel_rfl)
  have v3 : ∀ pos, Both C d ft1.sc ft1.nms false (vVar 3) (.Name (Str.ofString "many") pos) := fun _ => .var (by kernel_rfl) (by kernel_rfl) (by kernel_rfl)
  exact (BothB.cons (BothS.setAttr X (v0 _) (v1 _) rfl (by kernel_rfl) (by kernel_rfl)) (BothB.cons (BothS.setAttr X (v0 _) (v2 _) rfl (by kernel_rfl) (by kernel_rfl)) (BothB.cons (BothS.setAttr X (v0 _) (v3 _) rfl (by kernel_rfl) (by kernel_rfl)) (BothB.cons (BothS.setAttr X (v0 _) Both.int rfl (by kernel_rfl) (by kernel_rfl)) (BothB.cons (BothS.setAttr X (v0 _) Both.int rfl (by kernel_rfl) (by kernel_rfl)) BothB.nil)))))
theorem b2 {C : Cx} (X : CxOk C tabs prg) {F : Calls} {d : Nat} (hF : SndF C prg d F) : BothB C d ft2.sc ft2.nms false (w2 F) ft2.body := by
  have v0 : ∀ pos, Both C d ft2.sc ft2.nms false (vVar 0) (.Name (Str.ofString "self") pos) := fun _ => .var (by kernel_rfl) (by kernel_rfl) (by kernel_rfl)
  exact (BothB.cons (BothS.ret (Both.tup (BothL.cons (Both.attr X (v0 _) rfl (by kernel_rfl) (fun ci h => by cases h; rfl)) rfl (BothL.cons (Both.attr X (v0 _) rfl (by kernel_rfl) (fun ci h => by cases h; rfl)) rfl BothL.nil)) (by decide))) BothB.nil)
theorem b3 {C : Cx} (X : CxOk C tabs prg) {F : Calls} {d : Nat} (hF : SndF C prg d F) : BothB C d ft3.sc ft3.nms false (w3 F) ft3.body := by
  have v0 : ∀ pos, Both C d ft3.sc ft3.nms false (vVar 0) (.Name (Str.ofString "self") pos) := fun _ => .var (by kernel_rfl) (by kernel_rfl) (by kernel_rfl)
  have v1 : ∀ pos, Both C d ft3.sc ft3.nms false (vVar 1) (.Name (Str.ofString "k") pos) := fun _ => .var (by kernel_rfl) (by kernel_rfl) (by kernel_rfl)
  have v2 : ∀ pos, Both C d ft3.sc ft3.nms false (vVar 2) (.Name (Str.ofString "last") pos) := fun _ => .var (by kernel_rfl) (by kernel_rfl) (by kernel_rfl)
  exact (BothB.cons (BothS.assign (Both.bi X bok_Min3 (BothL.cons (Both.attr X (v0 _) rfl (by kernel_rfl) (fun ci h => by cases h; rfl)) rfl (BothL.cons (Both.bin bin_sub (Both.bin bin_add (Both.attr X (v0 _) rfl (by kernel_rfl) (fun ci h => by cases h; rfl)) (Both.attr X (v0 _) rfl (by kernel_rfl) (fun ci h => by cases h; rfl))) Both.int) rfl (BothL.cons (Both.bin bin_sub (Both.attr X (v0 _) rfl (by kernel_rfl) (fun ci h => by cases h; rfl)) Both.int) rfl BothL.nil))) (by decide +kernel) (by kernel_rfl) (by decide)) rfl (by kernel_rfl)) (BothB.cons (BothS.ite (Both.not (Both.call X hF (BothL.cons (v1 _) rfl (BothL.cons (Both.attr X (v0 _) rfl (by kernel_rfl) (fun ci h => by cases h; rfl)) rfl (BothL.cons (v2 _) rfl BothL.nil))) (by kernel_rfl) (by decide +kernel) (by kernel_rfl) (by kernel_rfl))) (BothB.cons (BothS.rais X (by kernel_rfl) (by kernel_rfl) (X.xcs 5 _ rfl rfl)) BothB.nil) BothB.nil) (BothB.cons (BothS.ite (Both.cmp (v1 _) (BothC.one cmp_eq (Both.attr X (v0 _) rfl (by kernel_rfl) (fun ci h => by cases h; rfl))) rfl) (BothB.cons (BothS.setAttr X (v0 _) (Both.bin bin_add (v1 _) Both.int) rfl (by kernel_rfl) (by kernel_rfl)) BothB.nil) BothB.nil) (BothB.cons (BothS.ret (Both.bin bin_mod (v1 _) (Both.attr X (v0 _) rfl (by kernel_rfl) (fun ci h => by cases h; rfl)))) BothB.nil))))
theorem b4 {C : Cx} (X : CxOk C tabs prg) {F : Calls} {d : Nat} (hF : SndF C prg d F) : BothB C d ft4.sc ft4.nms false (w4 F) ft4.body := by
  have v0 : ∀ pos, Both C d ft4.sc ft4.nms false (vVar 0) (.Name (Str.ofString "self") pos) := fun _ => .var (by kernel_rfl) (by kernel_rfl) (by kernel_rfl)
  have v1 : ∀ pos, Both C d ft4.sc ft4.nms false (vVar 1) (.Name (Str.ofString "number") pos) := fun _ => .var (by kernel_rfl) (by kernel_rfl) (by kernel_rfl)
  have v2 : ∀ pos, Both C d ft4.sc ft4.nms false (vVar 2) (.Name (Str.ofString "step") pos) := fun _ => .var (by kernel_rfl) (by kernel_rfl) (by kernel_rfl)
  exact (BothB.cons (BothS.assign (Both.bin bin_mod (Both.bin bin_sub (v1 _) (Both.attr X (v0 _) rfl (by kernel_rfl) (fun ci h => by cases h; rfl))) (Both.attr X (v0 _) rfl (by kernel_rfl) (fun ci h => by cases h; rfl))) rfl (by kernel_rfl)) (BothB.cons (BothS.ite (Both.cmp (Both.bin bin_add (Both.attr X (v0 _) rfl (by kernel_rfl) (fun ci h => by cases h; rfl)) (v2 _)) (BothC.one cmp_le (Both.attr X (v0 _) rfl (by kernel_rfl) (fun ci h => by cases h; rfl))) rfl) (BothB.cons (BothS.setAttr X (v0 _) (Both.bin bin_add (Both.attr X (v0 _) rfl (by kernel_rfl) (fun ci h => by cases h; rfl)) (v2 _)) rfl (by kernel_rfl) (by kernel_rfl)) BothB.nil) BothB.nil) BothB.nil))
theorem b5 {C : Cx} (X : CxOk C tabs prg) {F : Calls} {d : Nat} (hF : SndF C prg d F) : BothB C d ft5.sc ft5.nms false (w5 F) ft5.body := by
  have v0 : ∀ pos, Both C d ft5.sc ft5.nms false (vVar 0) (.Name (Str.ofString "_law_script") pos) := fun _ => .var (by kernel_rfl) (by kernel_rfl) (by kernel_rfl)
  have v1 : ∀ pos, Both C d ft5.sc ft5.nms false (vVar 1) (.Name (Str.ofString "_law_k") pos) := fun _ => .var (by kernel_rfl) (by kernel_rfl) (by kernel_rfl)
  exact (BothB.cons (BothS.ite (Both.cmp (v1 _) (BothC.one cmp_lt (Both.bi X bok_Len (BothL.cons (v0 _) rfl BothL.nil) (by decide +kernel) (by kernel_rfl) (by decide))) rfl) (BothB.cons (BothS.ret (Both.idx idx_L (v0 _) (v1 _) fun _ _ => rfl)) BothB.nil) BothB.nil) (BothB.cons (BothS.ret Both.int) BothB.nil))
theorem b6 {C : Cx} (X : CxOk C tabs prg) {F : Calls} {d : Nat} (hF : SndF C prg d F) : BothB C d ft6.sc ft6.nms false (w6 F) ft6.body := by
  have v0 : ∀ pos, Both C d ft6.sc ft6.nms false (vVar 0) (.Name (Str.ofString "_law_cell") pos) := fun _ => .var (by kernel_rfl) (by kernel_rfl) (by kernel_rfl)
  have v1 : ∀ pos, Both C d ft6.sc ft6.nms false (vVar 1) (.Name (Str.ofString "_law_k") pos) := fun _ => .var (by kernel_rfl) (by kernel_rfl) (by kernel_rfl)
  exact (BothB.cons (BothS.ret (Both.bin bin_mod (Both.bin bin_add (Both.bin bin_mul (v0 _) Both.int) (Both.bin bin_mul (Both.bin bin_mul Both.int (Both.bin bin_add (v1 _) Both.int)) (Both.bin bin_add (v1 _) Both.int))) Both.int)) BothB.nil)
theorem b7 {C : Cx} (X : CxOk C tabs prg) {F : Calls} {d : Nat} (hF : SndF C prg d F) : BothB C d ft7.sc ft7.nms false (w7 F) ft7.body := by
  have v0 : ∀ pos, Both C d ft7.sc ft7.nms false (vVar 0) (.Name (Str.ofString "_law_thing") pos) := fun _ => .var (by kernel_rfl) (by kernel_rfl) (by kernel_rfl)
  exact (BothB.cons (BothS.ret (Both.and (BothBl.cons (Both.isi (t := .int) X (v0 _) rfl (by kernel_rfl) (by decide +kernel) (by kernel_rfl) boot_int (by decide +kernel) (by kernel_rfl)) (BothBl.one (Both.not (Both.isi (t := .bool) X (v0 _) rfl (by kernel_rfl) (by decide +kernel) (by kernel_rfl) boot_bool (by decide +kernel) (by kernel_rfl))))))) BothB.nil)
theorem b8 {C : Cx} (X : CxOk C tabs prg) {F : Calls} {d : Nat} (hF : SndF C prg d F) : BothB C d ft8.sc ft8.nms true (w8 F) ft8.body := by
  have v0 : ∀ pos, Both C d ft8.sc ft8.nms true (vVar 0) (.Name (Str.ofString "_law_error") pos) := fun _ => .var (by kernel_rfl) (by kernel_rfl) (by kernel_rfl)
  have v1 : ∀ pos, Both C d ft8.sc ft8.nms true (vVar 1) (.Name (Str.ofString "_law_word_here") pos) := fun _ => .var (by kernel_rfl) (by kernel_rfl) (by kernel_rfl)
  have v2 : ∀ pos, Both C d ft8.sc ft8.nms true (vVar 2) (.Name (Str.ofString "_law_is_other") pos) := fun _ => .var (by kernel_rfl) (by kernel_rfl) (by kernel_rfl)
  exact (BothB.cons (BothS.assign (Both.bin bin_mulS (Both.str (by kernel_rfl)) (Both.bi X bok_IntB (BothL.cons (Both.isiX X (v0 _) rfl (by kernel_rfl) (by decide +kernel) (by kernel_rfl) (by kernel_rfl) (by kernel_rfl) rfl rfl) rfl BothL.nil) (by decide +kernel) (by kernel_rfl) (by decide))) rfl (by kernel_rfl)) (BothB.cons (BothS.forL (Both.lst (BothL.cons (Both.isiX X (v0 _) rfl (by kernel_rfl) (by decide +kernel) (by kernel_rfl) (by kernel_rfl) (by kernel_rfl) rfl rfl) rfl (BothL.cons (Both.isiX X (v0 _) rfl (by kernel_rfl) (by decide +kernel) (by kernel_rfl) (by kernel_rfl) (by kernel_rfl) rfl rfl) rfl (BothL.cons (Both.isiX X (v0 _) rfl (by kernel_rfl) (by decide +kernel) (by kernel_rfl) (by kernel_rfl) (by kernel_rfl) rfl rfl) rfl BothL.nil))) (by decide)) (BothB.cons (BothS.assign (Both.bin bin_addS (v1 _) (Both.bin bin_mulS (Both.str (by kernel_rfl)) (Both.bi X bok_IntB (BothL.cons (v2 _) rfl BothL.nil) (by decide +kernel) (by kernel_rfl) (by decide)))) rfl (by kernel_rfl)) BothB.nil) rfl (by kernel_rfl)) (BothB.cons (BothS.forL (Both.lst (BothL.cons (Both.isiX X (v0 _) rfl (by kernel_rfl) (by decide +kernel) (by kernel_rfl) (by kernel_rfl) (by kernel_rfl) rfl rfl) rfl (BothL.cons (Both.isiX X (v0 _) rfl (by kernel_rfl) (by decide +kernel) (by kernel_rfl) (by kernel_rfl) (by kernel_rfl) rfl rfl) rfl (BothL.cons (Both.isiX X (v0 _) rfl (by kernel_rfl) (by decide +kernel) (by kernel_rfl) (by kernel_rfl) (by kernel_rfl) rfl rfl) rfl BothL.nil))) (by decide)) (BothB.cons (BothS.assign (Both.bin bin_addS (v1 _) (Both.bin bin_mulS (Both.str (by kernel_rfl)) (Both.bi X bok_IntB (BothL.cons (v2 _) rfl BothL.nil) (by decide +kernel) (by kernel_rfl) (by decide)))) rfl (by kernel_rfl)) BothB.nil) rfl (by kernel_rfl)) (BothB.cons (BothS.ret (Both.bin bin_mulS (Both.bin bin_addS (v1 _) (Both.bin bin_mulS (Both.str (by kernel_rfl)) (Both.bi X bok_IntB (BothL.cons (Both.isiX X (v0 _) rfl (by kernel_rfl) (by decide +kernel) (by kernel_rfl) (by kernel_rfl) (by kernel_rfl) rfl rfl) rfl BothL.nil) (by decide +kernel) (by kernel_rfl) (by decide)))) (Both.bi X bok_IntB (BothL.cons (Both.isiV X (v0 _) rfl (by kernel_rfl) (by decide +kernel) (by kernel_rfl) boot_ValueError (by decide +kernel) (by kernel_rfl)) rfl BothL.nil) (by decide +kernel) (by kernel_rfl) (by decide)))) BothB.nil))))
theorem b9 {C : Cx} (X : CxOk C tabs prg) {F : Calls} {d : Nat} (hF : SndF C prg d F) : BothB C d ft9.sc ft9.nms false (w9 F) ft9.body := by
  have v0 : ∀ pos, Both C d ft9.sc ft9.nms false (vVar 0) (.Name (Str.ofString "_law_sender") pos) := fun _ => .var (by kernel_rfl) (by kernel_rfl) (by kernel_rfl)
  have v1 : ∀ pos, Both C d ft9.sc ft9.nms false (vVar 1) (.Name (Str.ofString "_law_k") pos) := fun _ => .var (by kernel_rfl) (by kernel_rfl) (by kernel_rfl)
  have v2q : ∀ pos, Both C d ft9.sc ft9.nms true (vVar 2) (.Name (Str.ofString "_law_error") pos) := fun _ => .var (by kernel_rfl) (by kernel_rfl) (by kernel_rfl)
  exact (BothB.cons (BothS.tryE X (BothB.cons (BothS.ret (Both.tup (BothL.cons (Both.str (by kernel_rfl)) rfl (BothL.cons (Both.meth X hF (v0 _) (BothL.cons (v1 _) rfl BothL.nil) rfl (by kernel_rfl) (by kernel_rfl) (by decide) rfl rfl (by decide)) rfl BothL.nil)) (by decide))) BothB.nil) (BothH.cons (by kernel_rfl) (by kernel_rfl) rfl rfl (by kernel_rfl) (by kernel_rfl) (BothB.cons (BothS.ret (Both.tup (BothL.cons (Both.str (by kernel_rfl)) rfl (BothL.cons (Both.call X hF (BothL.cons (v2q _) rfl BothL.nil) (by kernel_rfl) (by decide +kernel) (by kernel_rfl) (by kernel_rfl)) rfl BothL.nil)) (by decide))) BothB.nil) BothH.nil)) BothB.nil)
theorem b10 {C : Cx} (X : CxOk C tabs prg) {F : Calls} {d : Nat} (hF : SndF C prg d F) : BothB C d ft10.sc ft10.nms false (w10 F) ft10.body := by
  have v0 : ∀ pos, Both C d ft10.sc ft10.nms false (vVar 0) (.Name (Str.ofString "_law_sender") pos) := fun _ => .var (by kernel_rfl) (by kernel_rfl) (by kernel_rfl)
  have v1 : ∀ pos, Both C d ft10.sc ft10.nms false (vVar 1) (.Name (Str.ofString "_law_base") pos) := fun _ => .var (by kernel_rfl) (by kernel_rfl) (by kernel_rfl)
  have v2 : ∀ pos, Both C d ft10.sc ft10.nms false (vVar 2) (.Name (Str.ofString "_law_top") pos) := fun _ => .var (by kernel_rfl) (by kernel_rfl) (by kernel_rfl)
  have v3 : ∀ pos, Both C d ft10.sc ft10.nms false (vVar 3) (.Name (Str.ofString "_law_found") pos) := fun _ => .var (by kernel_rfl) (by kernel_rfl) (by kernel_rfl)
  exact (BothB.cons (BothS.assign (Both.meth X hF (v0 _) BothL.nil rfl (by kernel_rfl) (by kernel_rfl) (by decide) rfl rfl (by decide)) rfl (by kernel_rfl)) (BothB.cons (BothS.ret (Both.and (BothBl.cons (Both.isi (t := .tuple) X (v3 _) rfl (by kernel_rfl) (by decide +kernel) (by kernel_rfl) boot_tuple (by decide +kernel) (by kernel_rfl)) (BothBl.cons (Both.cmp (v3 _) (BothC.one cmp_eq (Both.tup (BothL.cons (v1 _) rfl (BothL.cons (v2 _) rfl BothL.nil)) (by decide))) rfl) (BothBl.cons (Both.call X hF (BothL.cons (Both.idx idx_T (v3 _) Both.int fun _ _ => rfl) rfl BothL.nil) (by kernel_rfl) (by decide +kernel) (by kernel_rfl) (by kernel_rfl)) (BothBl.one (Both.call X hF (BothL.cons (Both.idx idx_T (v3 _) Both.int fun _ _ => rfl) rfl BothL.nil) (by kernel_rfl) (by decide +kernel) (by kernel_rfl) (by kernel_rfl)))))))) BothB.nil))
theorem b11 {C : Cx} (X : CxOk C tabs prg) {F : Calls} {d : Nat} (hF : SndF C prg d F) : BothB C d ft11.sc ft11.nms false (w11 F) ft11.body := by
  have v0 : ∀ pos, Both C d ft11.sc ft11.nms false (vVar 0) (.Name (Str.ofString "_law_script") pos) := fun _ => .var (by kernel_rfl) (by kernel_rfl) (by kernel_rfl)
  have v1 : ∀ pos, Both C d ft11.sc ft11.nms false (vVar 1) (.Name (Str.ofString "_law_one") pos) := fun _ => .var (by kernel_rfl) (by kernel_rfl) (by kernel_rfl)
  have v2 : ∀ pos, Both C d ft11.sc ft11.nms false (vVar 2) (.Name (Str.ofString "_law_window") pos) := fun _ => .var (by kernel_rfl) (by kernel_rfl) (by kernel_rfl)
  have v3 : ∀ pos, Both C d ft11.sc ft11.nms false (vVar 3) (.Name (Str.ofString "_law_ring") pos) := fun _ => .var (by kernel_rfl) (by kernel_rfl) (by kernel_rfl)
  have v4 : ∀ pos, Both C d ft11.sc ft11.nms false (vVar 4) (.Name (Str.ofString "_law_many") pos) := fun _ => .var (by kernel_rfl) (by kernel_rfl) (by kernel_rfl)
  have v5 : ∀ pos, Both C d ft11.sc ft11.nms false (vVar 5) (.Name (Str.ofString "_law_sender") pos) := fun _ => .var (by kernel_rfl) (by kernel_rfl) (by kernel_rfl)
  have v6 : ∀ pos, Both C d ft11.sc ft11.nms false (vVar 6) (.Name (Str.ofString "_law_other") pos) := fun _ => .var (by kernel_rfl) (by kernel_rfl) (by kernel_rfl)
  have v7 : ∀ pos, Both C d ft11.sc ft11.nms false (vVar 7) (.Name (Str.ofString "_law_base") pos) := fun _ => .var (by kernel_rfl) (by kernel_rfl) (by kernel_rfl)
  have v8 : ∀ pos, Both C d ft11.sc ft11.nms false (vVar 8) (.Name (Str.ofString "_law_top") pos) := fun _ => .var (by kernel_rfl) (by kernel_rfl) (by kernel_rfl)
  have v9 : ∀ pos, Both C d ft11.sc ft11.nms false (vVar 9) (.Name (Str.ofString "_law_cell") pos) := fun _ => .var (by kernel_rfl) (by kernel_rfl) (by kernel_rfl)
  have v10 : ∀ pos, Both C d ft11.sc ft11.nms false (vVar 10) (.Name (Str.ofString "_law_more") pos) := fun _ => .var (by kernel_rfl) (by kernel_rfl) (by kernel_rfl)
  have v11 : ∀ pos, Both C d ft11.sc ft11.nms false (vVar 11) (.Name (Str.ofString "_law_some") pos) := fun _ => .var (by kernel_rfl) (by kernel_rfl) (by kernel_rfl)
  have v12 : ∀ pos, Both C d ft11.sc ft11.nms false (vVar 12) (.Name (Str.ofString "_law_k") pos) := fun _ => .var (by kernel_rfl) (by kernel_rfl) (by kernel_rfl)
  have v13 : ∀ pos, Both C d ft11.sc ft11.nms false (vVar 13) (.Name (Str.ofString "_law_found") pos) := fun _ => .var (by kernel_rfl) (by kernel_rfl) (by kernel_rfl)
  have v14 : ∀ pos, Both C d ft11.sc ft11.nms false (vVar 14) (.Name (Str.ofString "_law_number") pos) := fun _ => .var (by kernel_rfl) (by kernel_rfl) (by kernel_rfl)
  have v15 : ∀ pos, Both C d ft11.sc ft11.nms false (vVar 15) (.Name (Str.ofString "_law_step") pos) := fun _ => .var (by kernel_rfl) (by kernel_rfl) (by kernel_rfl)
  have v16 : ∀ pos, Both C d ft11.sc ft11.nms false (vVar 16) (.Name (Str.ofString "_law_odd") pos) := fun _ => .var (by kernel_rfl) (by kernel_rfl) (by kernel_rfl)
  exact (BothB.cons (BothS.assign (Both.call X hF (BothL.cons (Both.call X hF (BothL.cons (v0 _) rfl (BothL.cons Both.int rfl BothL.nil)) (by kernel_rfl) (by decide +kernel) (by kernel_rfl) (by kernel_rfl)) rfl (BothL.cons Both.int rfl BothL.nil)) (by kernel_rfl) (by decide +kernel) (by kernel_rfl) (by kernel_rfl)) rfl (by kernel_rfl)) (BothB.cons (BothS.assign (Both.bin bin_add Both.int (Both.bin bin_mod (v1 _) (Both.idx idx_L (Both.lst (BothL.cons Both.int rfl (BothL.cons Both.int rfl BothL.nil)) (by decide)) (Both.bin bin_mod (Both.bin bin_fdiv (v1 _) Both.int) Both.int) fun _ _ => rfl))) rfl (by kernel_rfl)) (BothB.cons (BothS.assign (Both.bin bin_add Both.int (Both.bin bin_mod (Both.call X hF (BothL.cons (Both.call X hF (BothL.cons (v0 _) rfl (BothL.cons Both.int rfl BothL.nil)) (by kernel_rfl) (by decide +kernel) (by kernel_rfl) (by kernel_rfl)) rfl (BothL.cons Both.int rfl BothL.nil)) (by kernel_rfl) (by decide +kernel) (by kernel_rfl) (by kernel_rfl)) (Both.idx idx_L (Both.lst (BothL.cons (Both.bin bin_add (v2 _) Both.int) rfl (BothL.cons Both.int rfl BothL.nil)) (by decide)) (Both.bin bin_mod (Both.bin bin_fdiv (v1 _) Both.int) Both.int) fun _ _ => rfl))) rfl (by kernel_rfl)) (BothB.cons (BothS.assign (Both.bin bin_mod (Both.call X hF (BothL.cons (Both.call X hF (BothL.cons (v0 _) rfl (BothL.cons Both.int rfl BothL.nil)) (by kernel_rfl) (by decide +kernel) (by kernel_rfl) (by kernel_rfl)) rfl (BothL.cons Both.int rfl BothL.nil)) (by kernel_rfl) (by decide +kernel) (by kernel_rfl) (by kernel_rfl)) Both.int) rfl (by kernel_rfl)) (BothB.cons (BothS.assign (Both.new X hF (BothL.cons (v2 _) rfl (BothL.cons (v3 _) rfl (BothL.cons (v4 _) rfl BothL.nil))) (by kernel_rfl) (by kernel_rfl) rfl rfl (by decide)) rfl (by kernel_rfl)) (BothB.cons (BothS.assign (Both.new X hF (BothL.cons (v2 _) rfl (BothL.cons (v3 _) rfl (BothL.cons (v4 _) rfl BothL.nil))) (by kernel_rfl) (by kernel_rfl) rfl rfl (by decide)) rfl (by kernel_rfl)) (BothB.cons (BothS.assign Both.int rfl (by kernel_rfl)) (BothB.cons (BothS.assign Both.int rfl (by kernel_rfl)) (BothB.cons (BothS.ite (Both.not (Both.call X hF (BothL.cons (v5 _) rfl (BothL.cons Both.int rfl (BothL.cons Both.int rfl BothL.nil))) (by kernel_rfl) (by decide +kernel) (by kernel_rfl) (by kernel_rfl))) (BothB.cons (BothS.ret Both.bool) BothB.nil) BothB.nil) (BothB.cons (BothS.forL (Both.slice rfl rfl (v0 _)) (BothB.cons (BothS.assign (Both.bin bin_fdiv (v9 _) Both.int) rfl (by kernel_rfl)) (BothB.cons (BothS.ite (Both.cmp (Both.bin bin_mod (v9 _) Both.int) (BothC.one cmp_lt Both.int) rfl) (BothB.cons (BothS.assign (Both.lst (BothL.cons (v8 _) rfl (BothL.cons (Both.bin bin_add (v7 _) (Both.bin bin_mod (Both.bin bin_fdiv (v10 _) Both.int) (v2 _))) rfl (BothL.cons (Both.bin bin_sub (v7 _) Both.int) rfl (BothL.cons (Both.bin bin_add (v7 _) (v2 _)) rfl (BothL.cons (Both.bin bin_add (v8 _) Both.int) rfl (BothL.cons (v4 _) rfl BothL.nil)))))) (by decide)) rfl (by kernel_rfl)) (BothB.cons (BothS.assign (Both.idx idx_L (v11 _) (Both.idx idx_L (Both.lst (BothL.cons Both.int rfl (BothL.cons Both.int rfl (BothL.cons Both.int rfl (BothL.cons Both.int rfl (BothL.cons Both.int rfl (BothL.cons Both.int rfl (BothL.cons Both.int rfl (BothL.cons Both.int rfl BothL.nil)))))))) (by decide)) (Both.bin bin_mod (v10 _) Both.int) fun _ _ => rfl) fun _ _ => rfl) rfl (by kernel_rfl)) (BothB.cons (BothS.ite (Both.and (BothBl.cons (Both.cmp (v7 _) (BothC.cons cmp_le (v12 _) (BothC.one cmp_le (v8 _))) rfl) (BothBl.cons (Both.cmp (v12 _) (BothC.one cmp_lt (Both.bin bin_add (v7 _) (v2 _))) rfl) (BothBl.one (Both.cmp (v12 _) (BothC.one cmp_lt (v4 _)) rfl))))) (BothB.cons (BothS.assign (Both.call X hF (BothL.cons (v5 _) rfl (BothL.cons (v12 _) rfl BothL.nil)) (by kernel_rfl) (by decide +kernel) (by kernel_rfl) (by kernel_rfl)) rfl (by kernel_rfl)) (BothB.cons (BothS.ite (Both.or (BothBl.cons (Both.cmp (v13 _) (BothC.one cmp_ne (Both.tup (BothL.cons (Both.str (by kernel_rfl)) rfl (BothL.cons (Both.bin bin_mod (v12 _) (v3 _)) rfl BothL.nil)) (by decide))) rfl) (BothBl.one (Both.not (Both.call X hF (BothL.cons (Both.idx idx_T (v13 _) Both.int fun _ _ => rfl) rfl BothL.nil) (by kernel_rfl) (by decide +kernel) (by kernel_rfl) (by kernel_rfl)))))) (BothB.cons (BothS.ret Both.bool) BothB.nil) BothB.nil) (BothB.cons (BothS.assign (Both.bi X bok_Max2 (BothL.cons (v8 _) rfl (BothL.cons (Both.bin bin_add (v12 _) Both.int) rfl BothL.nil)) (by decide +kernel) (by kernel_rfl) (by decide)) rfl (by kernel_rfl)) BothB.nil))) (BothB.cons (BothS.ite (Both.cmp (Both.call X hF (BothL.cons (v5 _) rfl (BothL.cons (v12 _) rfl BothL.nil)) (by kernel_rfl) (by decide +kernel) (by kernel_rfl) (by kernel_rfl)) (BothC.one cmp_ne (Both.tup (BothL.cons (Both.str (by kernel_rfl)) rfl (BothL.cons (Both.str (by kernel_rfl)) rfl BothL.nil)) (by decide))) rfl) (BothB.cons (BothS.ret Both.bool) BothB.nil) BothB.nil) BothB.nil)) BothB.nil))) (BothB.cons (BothS.assign (Both.idx idx_L (Both.lst (BothL.cons (Both.bin bin_mod (v10 _) (v3 _)) rfl (BothL.cons (Both.bin bin_mod (Both.bin bin_add (v7 _) (Both.bin bin_mod (Both.bin bin_fdiv (v10 _) Both.int) (Both.bin bin_add (Both.bin bin_sub (v8 _) (v7 _)) Both.int))) (v3 _)) rfl BothL.nil)) (by decide)) (Both.bin bin_mod (Both.bin bin_fdiv (Both.bin bin_mod (v10 _) Both.int) Both.int) Both.int) fun _ _ => rfl) rfl (by kernel_rfl)) (BothB.cons (BothS.assign (Both.bin bin_mod (Both.bin bin_sub (v14 _) (v7 _)) (v3 _)) rfl (by kernel_rfl)) (BothB.cons (BothS.ite (Both.cmp (Both.meth X hF (v5 _) (BothL.cons (v14 _) rfl BothL.nil) rfl (by kernel_rfl) (by kernel_rfl) (by decide) rfl rfl (by decide)) (BothC.one cmp_isn Both.none) rfl) (BothB.cons (BothS.ret Both.bool) BothB.nil) BothB.nil) (BothB.cons (BothS.ite (Both.cmp (Both.bin bin_add (v7 _) (v15 _)) (BothC.one cmp_le (v8 _)) rfl) (BothB.cons (BothS.assign (Both.bin bin_add (v7 _) (v15 _)) rfl (by kernel_rfl)) BothB.nil) BothB.nil) BothB.nil))))) (BothB.cons (BothS.ite (Both.and (BothBl.cons (Both.cmp (Both.bin bin_mod (Both.bin bin_fdiv (v9 _) Both.int) Both.int) (BothC.one cmp_gt Both.int) rfl) (BothBl.one (Both.not (Both.call X hF (BothL.cons (v5 _) rfl (BothL.cons (v7 _) rfl (BothL.cons (v8 _) rfl BothL.nil))) (by kernel_rfl) (by decide +kernel) (by kernel_rfl) (by kernel_rfl)))))) (BothB.cons (BothS.ret Both.bool) BothB.nil) BothB.nil) BothB.nil))) rfl (by kernel_rfl)) (BothB.cons (BothS.assign (Both.idx idx_L (Both.lst (BothL.cons Both.none rfl (BothL.cons Both.bool rfl (BothL.cons (Both.str (by kernel_rfl)) rfl (BothL.cons (Both.lst (BothL.cons (v7 _) rfl BothL.nil) (by decide)) rfl (BothL.cons (Both.tup (BothL.cons (v7 _) rfl BothL.nil) (by decide)) rfl (BothL.cons (Both.neg Both.int) rfl (BothL.cons Both.bool rfl (BothL.cons (Both.bin bin_add (v7 _) (Both.bin bin_pow Both.int Both.int)) rfl BothL.nil)))))))) (by decide)) (Both.bin bin_mod (Both.call X hF (BothL.cons (v0 _) rfl (BothL.cons Both.int rfl BothL.nil)) (by kernel_rfl) (by decide +kernel) (by kernel_rfl) (by kernel_rfl)) Both.int) fun _ _ => rfl) rfl (by kernel_rfl)) (BothB.cons (BothS.ite (Both.or (BothBl.cons (Both.cmp (Both.call X hF (BothL.cons (v5 _) rfl (BothL.cons (v16 _) rfl BothL.nil)) (by kernel_rfl) (by decide +kernel) (by kernel_rfl) (by kernel_rfl)) (BothC.one cmp_ne (Both.tup (BothL.cons (Both.str (by kernel_rfl)) rfl (BothL.cons (Both.str (by kernel_rfl)) rfl BothL.nil)) (by decide))) rfl) (BothBl.one (Both.not (Both.call X hF (BothL.cons (v5 _) rfl (BothL.cons (v7 _) rfl (BothL.cons (v8 _) rfl BothL.nil))) (by kernel_rfl) (by decide +kernel) (by kernel_rfl) (by kernel_rfl)))))) (BothB.cons (BothS.ret Both.bool) BothB.nil) BothB.nil) (BothB.cons (BothS.ret (Both.call X hF (BothL.cons (v6 _) rfl (BothL.cons Both.int rfl (BothL.cons Both.int rfl BothL.nil))) (by kernel_rfl) (by decide +kernel) (by kernel_rfl) (by kernel_rfl))) BothB.nil)))))))))))))
end Ap.L02
end
section
set_option Elab.async false
set_option linter.unusedVariables false
set_option linter.unusedSimpArgs false
namespace Ap
open PySem
section
variable {F : Calls} {ρ : Loc} {σ : St} {Q : PQ} {E : PE} {QQ : QS} {EE : ES} {RL : List AV → St → Prop} {RB : Bool → St → Prop} {K : Bool → Prop} {a b c e : WE} {es : WL} {r : WBl} {cc : AV → WBl} {u v : AV} {vs xs ys : List AV} {i j x y : Int} {s t : Str} {n m f : Nat} {o : O2} {p : O1} {g : ON} {k : OC} {z w : Bool} {A B : WS} {H : WH}
theorem upd_self' (σ : St) (a : Nat) (o : AObj) : upd σ a o a = some o := if_pos rfl
theorem upd_ne' (σ : St) {a b : Nat} (o : AObj) (h : b ≠ a) : upd σ a o b = σ b := if_neg h
theorem wpF_in {P : Prg} {d : Nat} {fi : FnI} (h : P.fns[f]? = some fi) (hl : vs.length = fi.arity) (hb : fi.body (wpF P d) (vs.map some ++ List.replicate (fi.nloc - fi.arity) Option.none) σ (kFn Q) (eFn E)) : wpF P (d + 1) f vs σ Q E := ⟨fi, h, hl, hb⟩
theorem forL_inv {G : St → Prop} {B : AV → Loc → St → QS → Prop} (I : Loc → St → Prop) : ∀ (xs : List AV),
    (∀ x ∈ xs, ∀ ρ σ R, I ρ σ → (∀ ρ' σ', I ρ' σ' → R .next ρ' σ') → G σ ∧ B x ρ σ R) → (∀ ρ σ, I ρ σ → G σ ∧ QQ .next ρ σ) → ∀ ρ σ, I ρ σ → forL G B xs ρ σ QQ := by
  intro xs
  induction xs with
  | nil => intro _ h2 ρ σ hi; exact h2 ρ σ hi
  | cons x xs ih => intro h1 h2 ρ σ hi; exact h1 x List.mem_cons_self ρ σ _ hi fun ρ' σ' hi' => ih (fun y hy => h1 y (List.mem_cons_of_mem _ hy)) h2 ρ' σ' hi'
theorem e_lookV : lookV Q σ (some v) = Q v σ := rfl
theorem e_var : vVar n ρ σ Q E = lookV Q σ (getL ρ n) := rfl
theorem e_c : vC v ρ σ Q E = Q v σ := rfl
theorem e_nil : lNil ρ σ RL E = RL [] σ := rfl
theorem e_cons : lCons e es ρ σ RL E = e ρ σ (kEs1 es ρ RL E) E := rfl
theorem e_kEs1 : kEs1 es ρ RL E v σ = es ρ σ (kEs2 v RL) E := rfl
theorem e_kEs2 : kEs2 v RL vs σ = RL (v :: vs) σ := rfl
theorem e_tup : vTup es ρ σ Q E = es ρ σ (kTup Q) E := rfl
theorem e_kTup : kTup Q vs σ = Q (.tup vs) σ := rfl
theorem e_lst : vLst z es ρ σ Q E = es ρ σ (kLst z Q) E := rfl
theorem e_kLst : kLst false Q vs σ = Q (.ilist vs) σ := rfl
theorem e_o2 : vO2 o a b ρ σ Q E = a ρ σ (kO1 o b ρ Q E) E := rfl
theorem e_kO1 : kO1 o b ρ Q E v σ = b ρ σ (kO2 o v Q) E := rfl
theorem e_kO2 : kO2 o u Q v σ = o u v σ Q := rfl
theorem e_o1 : vO1 p a ρ σ Q E = a ρ σ (kU p Q) E := rfl
theorem e_kU : kU p Q v σ = p v σ Q := rfl
theorem e_oN : vON g es ρ σ Q E = es ρ σ (kN g Q) E := rfl
theorem e_kN : kN g Q vs σ = g vs σ Q := rfl
theorem e_neg : oNeg (.int i) σ Q = Q (.int (-i)) σ := rfl
theorem e_not : oNot (.bool z) σ Q = Q (.bool (!z)) σ := rfl
theorem e_bl : vBl r ρ σ Q E = r ρ σ (kBool Q) E := rfl
theorem e_kBool : kBool Q z σ = Q (.bool z) σ := rfl
theorem e_blNil : blNil z ρ σ RB E = RB z σ := rfl
theorem e_blCons : blCons z e r ρ σ RB E = e ρ σ (onT (kBl z r ρ RB E)) E := rfl
theorem e_onT : onT RB (.bool z) σ = RB z σ := rfl
theorem e_kBl : kBl z r ρ RB E w σ = brBl r ρ RB E w (w == z) σ := rfl
theorem e_brBl1 : brBl r ρ RB E z true σ = r ρ σ RB E := rfl
theorem e_brBl0 : brBl r ρ RB E z false σ = RB z σ := rfl
theorem e_brBlN : brBl (blNil true) ρ RB E z z σ = RB z σ := by cases z <;> rfl
theorem e_brBlM : brBl (blNil false) ρ RB E z (!z) σ = RB z σ := by cases z <;> rfl
theorem e_cmp : vCmp a cc ρ σ Q E = a ρ σ (kCmp cc ρ Q E) E := rfl
theorem e_kCmp : kCmp cc ρ Q E v σ = cc v ρ σ (kBool Q) E := rfl
theorem e_cNil : cNil v ρ σ RB E = RB true σ := rfl
theorem e_cCons : cCons k e cc v ρ σ RB E = e ρ σ (kCh1 v k cc ρ RB E) E := rfl
theorem e_kCh1 : kCh1 v k cc ρ RB E u σ = k v u σ (kCh2 u cc ρ RB E σ) := rfl
theorem e_kCh2n : kCh2 u cNil ρ RB E σ z = RB z σ := by cases z <;> rfl
theorem e_kCh20 : kCh2 u cc ρ RB E σ false = RB false σ := rfl
theorem e_kCh21 : kCh2 u cc ρ RB E σ true = cc u ρ σ RB E := rfl
theorem e_call : vCall F f es ρ σ Q E = es ρ σ (kCall F f Q E) E := rfl
theorem e_kCall : kCall F f Q E vs σ = F f vs σ Q E := rfl
theorem e_new : vNew F n f es ρ σ Q E = es ρ σ (kNew F n f Q E) E := rfl
theorem e_kNew : kNew F n f Q E vs σ = ∀ a, σ a = Option.none → F f (.obj a :: vs) (upd σ a (.inst n [])) (kInit a Q) E := rfl
theorem e_kInit : kInit n Q .none σ = Q (.obj n) σ := rfl
theorem e_meth : vMeth F n m f e es ρ σ Q E = e ρ σ (kMeth F n m f es ρ Q E) E := rfl
theorem e_kMeth2 : kMeth2 F f n Q E vs σ = F f (.obj n :: vs) σ Q E := rfl
theorem s_assign : sAssign n e ρ σ QQ EE = e ρ σ (kAsg n ρ QQ) (kE EE ρ) := rfl
theorem s_kAsg : kAsg n ρ QQ v σ = QQ .next (setL ρ n v) σ := rfl
theorem s_kE : kE EE ρ n σ = EE n ρ σ := rfl
theorem s_setAttr : sSetAttr a n f e ρ σ QQ EE = e ρ σ (kSA1 a n f ρ QQ EE) (kE EE ρ) := rfl
theorem s_kSA1 : kSA1 a n f ρ QQ EE v σ = a ρ σ (kSA2 n f v ρ QQ) (kE EE ρ) := rfl
theorem s_expr : sExpr e ρ σ QQ EE = e ρ σ (kExp ρ QQ) (kE EE ρ) := rfl
theorem s_kExp : kExp ρ QQ v σ = QQ .next ρ σ := rfl
theorem s_ret : sRet e ρ σ QQ EE = e ρ σ (kRet ρ QQ) (kE EE ρ) := rfl
theorem s_kRet : kRet ρ QQ v σ = QQ (.ret v) ρ σ := rfl
theorem s_ret0 : sRet0 ρ σ QQ EE = QQ (.ret .none) ρ σ := rfl
theorem s_ite : sIte c A B ρ σ QQ EE = c ρ σ (onT (brS A B ρ QQ EE)) (kE EE ρ) := rfl
theorem s_brS1 : brS A B ρ QQ EE true σ = A ρ σ QQ EE := rfl
theorem s_brS0 : brS A B ρ QQ EE false σ = B ρ σ QQ EE := rfl
theorem s_pass : sPass ρ σ QQ EE = QQ .next ρ σ := rfl
theorem s_rais : sRais n ρ σ QQ EE = EE n ρ σ := rfl
theorem s_try : sTry A H ρ σ QQ EE = A ρ σ QQ (kTry H QQ EE) := rfl
theorem s_kTry : kTry H QQ EE n ρ σ = H n ρ σ QQ EE := rfl
theorem s_hNil : hNil n ρ σ QQ EE = EE n ρ σ := rfl
theorem s_brH1 : brH n m A H ρ σ QQ EE true = A (setL ρ m (.exn n)) σ (kH QQ) eNoS := rfl
theorem s_brH0 : brH n m A H ρ σ QQ EE false = H n ρ σ QQ EE := rfl
theorem s_kH : kH QQ (.ret v) ρ σ = QQ (.ret v) [] σ := rfl
theorem s_for : sFor n e A ρ σ QQ EE = e ρ σ (kFor n A ρ QQ EE) (kE EE ρ) := rfl
theorem s_bOne : bOne n A EE v ρ σ QQ = A (setL ρ n v) σ QQ EE := rfl
theorem b_nil : bNil ρ σ QQ EE = QQ .next ρ σ := rfl
theorem b_cons : bCons A B ρ σ QQ EE = A ρ σ (kSeq B QQ EE) EE := rfl
theorem b_kSeqN : kSeq A QQ EE .next ρ σ = A ρ σ QQ EE := rfl
theorem b_kSeqR : kSeq A QQ EE (.ret v) ρ σ = QQ (.ret v) ρ σ := rfl
theorem f_kFnN : kFn Q .next ρ σ = Q .none σ := rfl
theorem f_kFnR : kFn Q (.ret v) ρ σ = Q v σ := rfl
theorem f_eFn : eFn E n ρ σ = E n σ := rfl
theorem l_nil {G : St → Prop} {B : AV → Loc → St → QS → Prop} : forL G B [] ρ σ QQ = (G σ ∧ QQ .next ρ σ) := rfl
theorem l_cons {G : St → Prop} {B : AV → Loc → St → QS → Prop} : forL G B (v :: vs) ρ σ QQ = (G σ ∧ B v ρ σ (kFL (forL G B vs) QQ)) := rfl
theorem l_kFLN {go : Loc → St → QS → Prop} : kFL go QQ .next ρ σ = go ρ σ QQ := rfl
theorem l_kFLR {go : Loc → St → QS → Prop} : kFL go QQ (.ret v) ρ σ = QQ (.ret v) ρ σ := rfl
theorem d_set0 {a : Option AV} {r : Loc} : setL (a :: r) 0 v = some v :: r := rfl
theorem d_setS {a : Option AV} {r : Loc} : setL (a :: r) (n + 1) v = a :: setL r n v := rfl
theorem d_get0 {a : Option AV} {r : Loc} : getL (a :: r) 0 = a := rfl
theorem d_getS {a : Option AV} {r : Loc} : getL (a :: r) (n + 1) = getL r n := rfl
theorem d_bt : (z == true) = z := by cases z <;> rfl
theorem d_bf : (z == false) = !z := by cases z <;> rfl
theorem d_nt : (!true) = false := rfl
theorem d_nf : (!false) = true := rfl
theorem d_gi : guardOf (.ilist xs) ys σ = True := rfl
theorem o_add : oAdd (.int x) (.int y) σ Q = Q (.int (x + y)) σ := rfl
theorem o_sub : oSub (.int x) (.int y) σ Q = Q (.int (x - y)) σ := rfl
theorem o_mul : oMul (.int x) (.int y) σ Q = ((x.natAbs < 2 ^ 63 ∨ y.natAbs < 2 ^ 63) ∧ Q (.int (x * y)) σ) := rfl
theorem o_mod : oMod (.int x) (.int y) σ Q = (y ≠ 0 ∧ Q (.int (x.fmod y)) σ) := rfl
theorem o_fdiv : oFdiv (.int x) (.int y) σ Q = ((y ≠ 0 ∧ y.natAbs < 1073741824) ∧ Q (.int (x.fdiv y)) σ) := rfl
theorem o_pow : oPow (.int x) (.int y) σ Q = ((0 ≤ y ∧ y ≤ 1000 ∧ x.natAbs < 2 ^ 63) ∧ Q (.int (x ^ y.toNat)) σ) := rfl
theorem o_addS : oAddS (.str s) (.str t) σ Q = (s.length + t.length ≤ 1000000 ∧ Q (.str (s ++ t)) σ) := rfl
theorem o_mulS : oMulS (.str s) (.int i) σ Q = ((0 ≤ i ∧ i ≤ 1000 ∧ s.length ≤ 1000) ∧ Q (.str (Txt.mul s i)) σ) := rfl
theorem o_idxT : oIdxT (.tup xs) (.int i) σ Q = (0 ≤ i ∧ lookV Q σ xs[i.toNat]?) := rfl
theorem i_l : oIdxL (.ilist xs) (.int i) σ Q = (0 ≤ i ∧ lookV Q σ xs[i.toNat]?) := rfl
theorem o_sl : oSl false n m (.ilist xs) σ Q = Q (.ilist ((xs.take m).drop n)) σ := rfl
theorem c_lt : cLt (.int x) (.int y) σ K = K (decide (x < y)) := rfl
theorem c_le : cLe (.int x) (.int y) σ K = K (decide (x ≤ y)) := rfl
theorem c_gt : cGt (.int x) (.int y) σ K = K (decide (x > y)) := rfl
theorem c_ge : cGe (.int x) (.int y) σ K = K (decide (x ≥ y)) := rfl
theorem x_eq {p q : PyData} (h1 : rd 8 σ u = some p) (h2 : rd 8 σ v = some q) : cEq u v σ K = K (PyData.eqv p q) := propext ⟨fun ⟨p', q', e1, e2, h⟩ => by rw [h1] at e1; rw [h2] at e2; cases e1; cases e2; exact h, fun h => ⟨_, _, h1, h2, h⟩⟩
theorem x_ne {p q : PyData} (h1 : rd 8 σ u = some p) (h2 : rd 8 σ v = some q) : cNe u v σ K = K (!PyData.eqv p q) := propext ⟨fun ⟨p', q', e1, e2, h⟩ => by rw [h1] at e1; rw [h2] at e2; cases e1; cases e2; exact h, fun h => ⟨_, _, h1, h2, h⟩⟩
theorem c_eqI : cEq (.int x) (.int y) σ K = K (x == y) := x_eq (p := .int x) (q := .int y) rfl rfl
theorem c_isn : cIsn .none .none σ K = K false := propext ⟨fun h => h.2.2, fun h => ⟨rfl, rfl, h⟩⟩
theorem x_len : oLen [.ilist xs] σ Q = Q (.int xs.length) σ := propext ⟨fun ⟨_, e, h⟩ => by cases e; exact h, fun h => ⟨_, rfl, h⟩⟩
theorem x_min3 {a b c : Int} : oMin3 [.int a, .int b, .int c] σ Q = Q (.int (if b < a then (if c < b then c else b) else (if c < a then c else a))) σ := propext ⟨fun ⟨_, _, _, e, h⟩ => by cases e; exact h, fun h => ⟨_, _, _, rfl, h⟩⟩
theorem x_max2 : oMax2 [.int x, .int y] σ Q = Q (.int (if y > x then y else x)) σ := propext ⟨fun ⟨_, _, e, h⟩ => by cases e; exact h, fun h => ⟨_, _, rfl, h⟩⟩
theorem x_intB : oIntB [.bool z] σ Q = Q (.int (if z then 1 else 0)) σ := propext ⟨fun ⟨_, e, h⟩ => by cases e; exact h, fun h => ⟨_, rfl, h⟩⟩
theorem x_isi {t : Ty} (h : plainV v = true) : oIsi t v σ Q = Q (.bool (isTy t v)) σ := propext ⟨fun h => h.2, fun q => ⟨h, q⟩⟩
theorem x_isiV : oIsiV (.exn n) σ Q = Q (.bool true) σ := propext ⟨fun ⟨_, _, h⟩ => h, fun h => ⟨_, rfl, h⟩⟩
theorem x_isiX {cs : List ClsI} {ci : ClsI} (h : cs[n]? = some ci) : oIsiX cs m (.exn n) σ Q = Q (.bool (ci.sups.contains m)) σ := propext ⟨fun ⟨_, _, e1, e2, q⟩ => by cases e1; rw [h] at e2; cases e2; exact q, fun q => ⟨_, _, rfl, h, q⟩⟩
theorem x_hCons {cs : List ClsI} {ci : ClsI} {d : Nat} (h : cs[n]? = some ci) : hCons cs d m A H n ρ σ QQ EE = brH n m A H ρ σ QQ EE (ci.sups.contains d) := propext ⟨fun ⟨_, e, q⟩ => by rw [h] at e; cases e; exact q, fun q => ⟨_, h, q⟩⟩
theorem x_for : kFor n A ρ QQ EE (.ilist xs) σ = forL (guardOf (.ilist xs) xs) (bOne n A EE) xs ρ σ QQ := propext ⟨fun ⟨_, e, q⟩ => by cases e; exact q, fun q => ⟨_, rfl, q⟩⟩
theorem x_meth {fs : List (Nat × AV)} {a c : Nat} (h : σ a = some (.inst c fs)) (h' : lookF fs m = Option.none) : kMeth F c m f es ρ Q E (.obj a) σ = es ρ σ (kMeth2 F f a Q E) E := propext ⟨fun ⟨_, _, e, _, _, q⟩ => by cases e; exact q, fun q => ⟨_, _, rfl, h, h', q⟩⟩
theorem x_attr {fs : List (Nat × AV)} {a c : Nat} (h : σ a = some (.inst c fs)) (h' : lookF fs f = some v) : oAttr c f (.obj a) σ Q = Q v σ := propext ⟨fun ⟨_, _, _, e, e1, e2, q⟩ => by cases e; rw [h] at e1; cases e1; rw [h'] at e2; cases e2; exact q, fun q => ⟨_, _, _, rfl, h, h', q⟩⟩
theorem x_setA {fs : List (Nat × AV)} {a c : Nat} (h : σ a = some (.inst c fs)) (h' : fs.length < 100) : kSA2 c f v ρ QQ (.obj a) σ = QQ .next ρ (upd σ a (.inst c (putF f v fs))) := propext ⟨fun ⟨_, _, e, e1, _, q⟩ => by cases e; rw [h] at e1; cases e1; exact q, fun q => ⟨_, _, rfl, h, h', q⟩⟩
end
end Ap
end
section
set_option Elab.async false
set_option maxRecDepth 100000
set_option maxHeartbeats 1000000
set_option linter.unusedVariables false
set_option linter.unusedSimpArgs false
namespace Ap.L02
open PySem
variable {d : Nat} {σ : St} {Q : PQ} {E : PE}
theorem at_wp {ns : List Int} (k : Nat) {i : Int} (hi : i = k) (h : Q (.int (ns.getD k 0)) σ) : wpF prg (d + 1) 5 [.ilist (ns.map .int), .int i] σ Q E := by
  subst hi
  refine wpF_in (fi := fn5) rfl rfl ?_
  simp -implicitDefEqProofs only [fn5, w5, e_lookV, e_var, e_c, e_nil, e_cons, e_kEs1, e_kEs2, e_tup, e_kTup, e_lst, e_kLst, e_o2, e_kO1, e_kO2, e_o1, e_kU, e_oN, e_kN, e_neg, e_not, e_bl, e_kBool, e_blNil, e_blCons, e_onT, e_kBl, e_brBl1, e_brBl0, e_brBlN, e_brBlM, e_cmp, e_kCmp, e_cNil, e_cCons, e_kCh1, e_kCh2n, e_kCh20, e_kCh21, e_call, e_kCall, e_new, e_kNew, e_kInit, e_meth, e_kMeth2, s_assign, s_kAsg, s_kE, s_setAttr, s_kSA1, s_expr, s_kExp, s_ret, s_kRet, s_ret0, s_ite, s_brS1, s_brS0, s_pass, s_rais, s_try, s_kTry, s_hNil, s_brH1, s_brH0, s_kH, s_for, s_bOne, b_nil, b_cons, b_kSeqN, b_kSeqR, f_kFnN, f_kFnR, f_eFn, l_nil, l_cons, l_kFLN, l_kFLR, d_set0, d_setS, d_get0, d_getS, d_bt, d_bf, d_nt, d_nf, d_gi, o_add, o_sub, o_mul, o_mod, o_fdiv, o_pow, o_addS, o_mulS, o_idxT, o_sl, c_lt, c_le, c_gt, c_ge, c_eqI, c_isn, x_len, x_min3, x_max2, x_intB, x_isiV, x_for, List.map_cons, List.map_nil, List.cons_append, List.nil_append, List.replicate_succ, List.replicate_zero, Nat.reduceSub, Nat.reduceAdd, Int.reduceAbs, Nat.reduceLT, Nat.reducePow, Nat.reduceLeDiff, Int.reduceLE, Int.reduceLT, Int.le_refl, ne_eq, Int.reduceEq, not_false_eq_true, true_and, and_true, decide_true, decide_false, Int.reduceToNat, Int.toNat_zero, Int.toNat_one, List.getElem?_cons_succ, List.getElem?_cons_zero, if_true, if_false, Bool.false_eq_true, List.length_map, Int.ofNat_lt]
  rw [List.getD_eq_getElem?_getD] at h
  by_cases hk : k < ns.length
  · simp -implicitDefEqProofs only [hk, e_lookV, e_var, e_c, e_nil, e_cons, e_kEs1, e_kEs2, e_tup, e_kTup, e_lst, e_kLst, e_o2, e_kO1, e_kO2, e_o1, e_kU, e_oN, e_kN, e_neg, e_not, e_bl, e_kBool, e_blNil, e_blCons, e_onT, e_kBl, e_brBl1, e_brBl0, e_brBlN, e_brBlM, e_cmp, e_kCmp, e_cNil, e_cCons, e_kCh1, e_kCh2n, e_kCh20, e_kCh21, e_call, e_kCall, e_new, e_kNew, e_kInit, e_meth, e_kMeth2, s_assign, s_kAsg, s_kE, s_setAttr, s_kSA1, s_expr, s_kExp, s_ret, s_kRet, s_ret0, s_ite, s_brS1, s_brS0, s_pass, s_rais, s_try, s_kTry, s_hNil, s_brH1, s_brH0, s_kH, s_for, s_bOne, b_nil, b_cons, b_kSeqN, b_kSeqR, f_kFnN, f_kFnR, f_eFn, l_nil, l_cons, l_kFLN, l_kFLR, d_set0, d_setS, d_get0, d_getS, d_bt, d_bf, d_nt, d_nf, d_gi, o_add, o_sub, o_mul, o_mod, o_fdiv, o_pow, o_addS, o_mulS, o_idxT, o_sl, c_lt, c_le, c_gt, c_ge, c_eqI, c_isn, x_len, x_min3, x_max2, x_intB, x_isiV, x_for, List.map_cons, List.map_nil, List.cons_append, List.nil_append, List.replicate_succ, List.replicate_zero, Nat.reduceSub, Nat.reduceAdd, Int.reduceAbs, Nat.reduceLT, Nat.reducePow, Nat.reduceLeDiff, Int.reduceLE, Int.reduceLT, Int.le_refl, ne_eq, Int.reduceEq, not_false_eq_true, true_and, and_true, decide_true, decide_false, Int.reduceToNat, Int.toNat_zero, Int.toNat_one, List.getElem?_cons_succ, List.getElem?_cons_zero, if_true, if_false, Bool.false_eq_true, i_l, Int.toNat_natCast, List.getElem?_map, List.getElem?_eq_getElem hk, Option.map_some]
    rw [List.getElem?_eq_getElem hk] at h
    exact ⟨Int.natCast_nonneg k, h⟩
  · simp -implicitDefEqProofs only [hk, e_lookV, e_var, e_c, e_nil, e_cons, e_kEs1, e_kEs2, e_tup, e_kTup, e_lst, e_kLst, e_o2, e_kO1, e_kO2, e_o1, e_kU, e_oN, e_kN, e_neg, e_not, e_bl, e_kBool, e_blNil, e_blCons, e_onT, e_kBl, e_brBl1, e_brBl0, e_brBlN, e_brBlM, e_cmp, e_kCmp, e_cNil, e_cCons, e_kCh1, e_kCh2n, e_kCh20, e_kCh21, e_call, e_kCall, e_new, e_kNew, e_kInit, e_meth, e_kMeth2, s_assign, s_kAsg, s_kE, s_setAttr, s_kSA1, s_expr, s_kExp, s_ret, s_kRet, s_ret0, s_ite, s_brS1, s_brS0, s_pass, s_rais, s_try, s_kTry, s_hNil, s_brH1, s_brH0, s_kH, s_for, s_bOne, b_nil, b_cons, b_kSeqN, b_kSeqR, f_kFnN, f_kFnR, f_eFn, l_nil, l_cons, l_kFLN, l_kFLR, d_set0, d_setS, d_get0, d_getS, d_bt, d_bf, d_nt, d_nf, d_gi, o_add, o_sub, o_mul, o_mod, o_fdiv, o_pow, o_addS, o_mulS, o_idxT, o_sl, c_lt, c_le, c_gt, c_ge, c_eqI, c_isn, x_len, x_min3, x_max2, x_intB, x_isiV, x_for, List.map_cons, List.map_nil, List.cons_append, List.nil_append, List.replicate_succ, List.replicate_zero, Nat.reduceSub, Nat.reduceAdd, Int.reduceAbs, Nat.reduceLT, Nat.reducePow, Nat.reduceLeDiff, Int.reduceLE, Int.reduceLT, Int.le_refl, ne_eq, Int.reduceEq, not_false_eq_true, true_and, and_true, decide_true, decide_false, Int.reduceToNat, Int.toNat_zero, Int.toNat_one, List.getElem?_cons_succ, List.getElem?_cons_zero, if_true, if_false, Bool.false_eq_true]
    rw [List.getElem?_eq_none (Nat.le_of_not_lt hk)] at h
    exact h
theorem mixed_wp {c k : Int} (hk : k.natAbs < 100) (h : Q (.int ((c * 48271 + 7919 * (k + 1) * (k + 3)).fmod 2147483647)) σ) : wpF prg (d + 1) 6 [.int c, .int k] σ Q E := by
  refine wpF_in (fi := fn6) rfl rfl ?_
  simp -implicitDefEqProofs only [fn6, w6, e_lookV, e_var, e_c, e_nil, e_cons, e_kEs1, e_kEs2, e_tup, e_kTup, e_lst, e_kLst, e_o2, e_kO1, e_kO2, e_o1, e_kU, e_oN, e_kN, e_neg, e_not, e_bl, e_kBool, e_blNil, e_blCons, e_onT, e_kBl, e_brBl1, e_brBl0, e_brBlN, e_brBlM, e_cmp, e_kCmp, e_cNil, e_cCons, e_kCh1, e_kCh2n, e_kCh20, e_kCh21, e_call, e_kCall, e_new, e_kNew, e_kInit, e_meth, e_kMeth2, s_assign, s_kAsg, s_kE, s_setAttr, s_kSA1, s_expr, s_kExp, s_ret, s_kRet, s_ret0, s_ite, s_brS1, s_brS0, s_pass, s_rais, s_try, s_kTry, s_hNil, s_brH1, s_brH0, s_kH, s_for, s_bOne, b_nil, b_cons, b_kSeqN, b_kSeqR, f_kFnN, f_kFnR, f_eFn, l_nil, l_cons, l_kFLN, l_kFLR, d_set0, d_setS, d_get0, d_getS, d_bt, d_bf, d_nt, d_nf, d_gi, o_add, o_sub, o_mul, o_mod, o_fdiv, o_pow, o_addS, o_mulS, o_idxT, o_sl, c_lt, c_le, c_gt, c_ge, c_eqI, c_isn, x_len, x_min3, x_max2, x_intB, x_isiV, x_for, List.map_cons, List.map_nil, List.cons_append, List.nil_append, List.replicate_succ, List.replicate_zero, Nat.reduceSub, Nat.reduceAdd, Int.reduceAbs, Nat.reduceLT, Nat.reducePow, Nat.reduceLeDiff, Int.reduceLE, Int.reduceLT, Int.le_refl, ne_eq, Int.reduceEq, not_false_eq_true, true_and, and_true, decide_true, decide_false, Int.reduceToNat, Int.toNat_zero, Int.toNat_one, List.getElem?_cons_succ, List.getElem?_cons_zero, if_true, if_false, Bool.false_eq_true, or_true]
  exact ⟨.inl (by decide), .inr (by omega), h⟩
theorem t_ii {i : Int} : isTy .int (.int i) = true := rfl
theorem t_bi {i : Int} : isTy .bool (.int i) = false := rfl
theorem t_ib {b : Bool} : isTy .int (.bool b) = true := rfl
theorem t_bb {b : Bool} : isTy .bool (.bool b) = true := rfl
theorem t_tt {xs : List AV} : isTy .tuple (.tup xs) = true := rfl
def isInt : AV → Bool
  | .int _ => true
  | _ => false
theorem whole_wp {v : AV} (hv : plainV v = true) (h : Q (.bool (isInt v)) σ) : wpF prg (d + 1) 7 [v] σ Q E := by
  refine wpF_in (fi := fn7) rfl rfl ?_
  simp -implicitDefEqProofs only [fn7, w7, e_lookV, e_var, e_c, e_nil, e_cons, e_kEs1, e_kEs2, e_tup, e_kTup, e_lst, e_kLst, e_o2, e_kO1, e_kO2, e_o1, e_kU, e_oN, e_kN, e_neg, e_not, e_bl, e_kBool, e_blNil, e_blCons, e_onT, e_kBl, e_brBl1, e_brBl0, e_brBlN, e_brBlM, e_cmp, e_kCmp, e_cNil, e_cCons, e_kCh1, e_kCh2n, e_kCh20, e_kCh21, e_call, e_kCall, e_new, e_kNew, e_kInit, e_meth, e_kMeth2, s_assign, s_kAsg, s_kE, s_setAttr, s_kSA1, s_expr, s_kExp, s_ret, s_kRet, s_ret0, s_ite, s_brS1, s_brS0, s_pass, s_rais, s_try, s_kTry, s_hNil, s_brH1, s_brH0, s_kH, s_for, s_bOne, b_nil, b_cons, b_kSeqN, b_kSeqR, f_kFnN, f_kFnR, f_eFn, l_nil, l_cons, l_kFLN, l_kFLR, d_set0, d_setS, d_get0, d_getS, d_bt, d_bf, d_nt, d_nf, d_gi, o_add, o_sub, o_mul, o_mod, o_fdiv, o_pow, o_addS, o_mulS, o_idxT, o_sl, c_lt, c_le, c_gt, c_ge, c_eqI, c_isn, x_len, x_min3, x_max2, x_intB, x_isiV, x_for, List.map_cons, List.map_nil, List.cons_append, List.nil_append, List.replicate_succ, List.replicate_zero, Nat.reduceSub, Nat.reduceAdd, Int.reduceAbs, Nat.reduceLT, Nat.reducePow, Nat.reduceLeDiff, Int.reduceLE, Int.reduceLT, Int.le_refl, ne_eq, Int.reduceEq, not_false_eq_true, true_and, and_true, decide_true, decide_false, Int.reduceToNat, Int.toNat_zero, Int.toNat_one, List.getElem?_cons_succ, List.getElem?_cons_zero, if_true, if_false, Bool.false_eq_true, x_isi hv]
  cases v <;> first | exact Bool.noConfusion hv | (simp -implicitDefEqProofs only [t_ii, t_bi, t_ib, t_bb, e_lookV, e_var, e_c, e_nil, e_cons, e_kEs1, e_kEs2, e_tup, e_kTup, e_lst, e_kLst, e_o2, e_kO1, e_kO2, e_o1, e_kU, e_oN, e_kN, e_neg, e_not, e_bl, e_kBool, e_blNil, e_blCons, e_onT, e_kBl, e_brBl1, e_brBl0, e_brBlN, e_brBlM, e_cmp, e_kCmp, e_cNil, e_cCons, e_kCh1, e_kCh2n, e_kCh20, e_kCh21, e_call, e_kCall, e_new, e_kNew, e_kInit, e_meth, e_kMeth2, s_assign, s_kAsg, s_kE, s_setAttr, s_kSA1, s_expr, s_kExp, s_ret, s_kRet, s_ret0, s_ite, s_brS1, s_brS0, s_pass, s_rais, s_try, s_kTry, s_hNil, s_brH1, s_brH0, s_kH, s_for, s_bOne, b_nil, b_cons, b_kSeqN, b_kSeqR, f_kFnN, f_kFnR, f_eFn, l_nil, l_cons, l_kFLN, l_kFLR, d_set0, d_setS, d_get0, d_getS, d_bt, d_bf, d_nt, d_nf, d_gi, o_add, o_sub, o_mul, o_mod, o_fdiv, o_pow, o_addS, o_mulS, o_idxT, o_sl, c_lt, c_le, c_gt, c_ge, c_eqI, c_isn, x_len, x_min3, x_max2, x_intB, x_isiV, x_for, List.map_cons, List.map_nil, List.cons_append, List.nil_append, List.replicate_succ, List.replicate_zero, Nat.reduceSub, Nat.reduceAdd, Int.reduceAbs, Nat.reduceLT, Nat.reducePow, Nat.reduceLeDiff, Int.reduceLE, Int.reduceLT, Int.le_refl, ne_eq, Int.reduceEq, not_false_eq_true, true_and, and_true, decide_true, decide_false, Int.reduceToNat, Int.toNat_zero, Int.toNat_one, List.getElem?_cons_succ, List.getElem?_cons_zero, if_true, if_false, Bool.false_eq_true, x_isi (v := .int _) rfl, x_isi (v := .bool _) rfl] ; exact h) | exact h
def amongB (v : AV) (lo hi : Int) : Bool := match v with
  | .int i => decide (lo ≤ i) && decide (i ≤ hi)
  | _ => false
theorem among_wp {v : AV} {lo hi : Int} (hv : plainV v = true) (h : Q (.bool (amongB v lo hi)) σ) : wpF prg (d + 1) 0 [v, .int lo, .int hi] σ Q E := by
  refine wpF_in (fi := fn0) rfl rfl ?_
  simp -implicitDefEqProofs only [fn0, w0, e_lookV, e_var, e_c, e_nil, e_cons, e_kEs1, e_kEs2, e_tup, e_kTup, e_lst, e_kLst, e_o2, e_kO1, e_kO2, e_o1, e_kU, e_oN, e_kN, e_neg, e_not, e_bl, e_kBool, e_blNil, e_blCons, e_onT, e_kBl, e_brBl1, e_brBl0, e_brBlN, e_brBlM, e_cmp, e_kCmp, e_cNil, e_cCons, e_kCh1, e_kCh2n, e_kCh20, e_kCh21, e_call, e_kCall, e_new, e_kNew, e_kInit, e_meth, e_kMeth2, s_assign, s_kAsg, s_kE, s_setAttr, s_kSA1, s_expr, s_kExp, s_ret, s_kRet, s_ret0, s_ite, s_brS1, s_brS0, s_pass, s_rais, s_try, s_kTry, s_hNil, s_brH1, s_brH0, s_kH, s_for, s_bOne, b_nil, b_cons, b_kSeqN, b_kSeqR, f_kFnN, f_kFnR, f_eFn, l_nil, l_cons, l_kFLN, l_kFLR, d_set0, d_setS, d_get0, d_getS, d_bt, d_bf, d_nt, d_nf, d_gi, o_add, o_sub, o_mul, o_mod, o_fdiv, o_pow, o_addS, o_mulS, o_idxT, o_sl, c_lt, c_le, c_gt, c_ge, c_eqI, c_isn, x_len, x_min3, x_max2, x_intB, x_isiV, x_for, List.map_cons, List.map_nil, List.cons_append, List.nil_append, List.replicate_succ, List.replicate_zero, Nat.reduceSub, Nat.reduceAdd, Int.reduceAbs, Nat.reduceLT, Nat.reducePow, Nat.reduceLeDiff, Int.reduceLE, Int.reduceLT, Int.le_refl, ne_eq, Int.reduceEq, not_false_eq_true, true_and, and_true, decide_true, decide_false, Int.reduceToNat, Int.toNat_zero, Int.toNat_one, List.getElem?_cons_succ, List.getElem?_cons_zero, if_true, if_false, Bool.false_eq_true, x_isi hv]
  cases v with
  | int i =>
    simp -implicitDefEqProofs only [t_ii, t_bi, t_ib, t_bb, e_lookV, e_var, e_c, e_nil, e_cons, e_kEs1, e_kEs2, e_tup, e_kTup, e_lst, e_kLst, e_o2, e_kO1, e_kO2, e_o1, e_kU, e_oN, e_kN, e_neg, e_not, e_bl, e_kBool, e_blNil, e_blCons, e_onT, e_kBl, e_brBl1, e_brBl0, e_brBlN, e_brBlM, e_cmp, e_kCmp, e_cNil, e_cCons, e_kCh1, e_kCh2n, e_kCh20, e_kCh21, e_call, e_kCall, e_new, e_kNew, e_kInit, e_meth, e_kMeth2, s_assign, s_kAsg, s_kE, s_setAttr, s_kSA1, s_expr, s_kExp, s_ret, s_kRet, s_ret0, s_ite, s_brS1, s_brS0, s_pass, s_rais, s_try, s_kTry, s_hNil, s_brH1, s_brH0, s_kH, s_for, s_bOne, b_nil, b_cons, b_kSeqN, b_kSeqR, f_kFnN, f_kFnR, f_eFn, l_nil, l_cons, l_kFLN, l_kFLR, d_set0, d_setS, d_get0, d_getS, d_bt, d_bf, d_nt, d_nf, d_gi, o_add, o_sub, o_mul, o_mod, o_fdiv, o_pow, o_addS, o_mulS, o_idxT, o_sl, c_lt, c_le, c_gt, c_ge, c_eqI, c_isn, x_len, x_min3, x_max2, x_intB, x_isiV, x_for, List.map_cons, List.map_nil, List.cons_append, List.nil_append, List.replicate_succ, List.replicate_zero, Nat.reduceSub, Nat.reduceAdd, Int.reduceAbs, Nat.reduceLT, Nat.reducePow, Nat.reduceLeDiff, Int.reduceLE, Int.reduceLT, Int.le_refl, ne_eq, Int.reduceEq, not_false_eq_true, true_and, and_true, decide_true, decide_false, Int.reduceToNat, Int.toNat_zero, Int.toNat_one, List.getElem?_cons_succ, List.getElem?_cons_zero, if_true, if_false, Bool.false_eq_true, x_isi (v := .int _) rfl]
    unfold amongB at h
    by_cases h1 : lo ≤ i
    · simp -implicitDefEqProofs only [h1, e_lookV, e_var, e_c, e_nil, e_cons, e_kEs1, e_kEs2, e_tup, e_kTup, e_lst, e_kLst, e_o2, e_kO1, e_kO2, e_o1, e_kU, e_oN, e_kN, e_neg, e_not, e_bl, e_kBool, e_blNil, e_blCons, e_onT, e_kBl, e_brBl1, e_brBl0, e_brBlN, e_brBlM, e_cmp, e_kCmp, e_cNil, e_cCons, e_kCh1, e_kCh2n, e_kCh20, e_kCh21, e_call, e_kCall, e_new, e_kNew, e_kInit, e_meth, e_kMeth2, s_assign, s_kAsg, s_kE, s_setAttr, s_kSA1, s_expr, s_kExp, s_ret, s_kRet, s_ret0, s_ite, s_brS1, s_brS0, s_pass, s_rais, s_try, s_kTry, s_hNil, s_brH1, s_brH0, s_kH, s_for, s_bOne, b_nil, b_cons, b_kSeqN, b_kSeqR, f_kFnN, f_kFnR, f_eFn, l_nil, l_cons, l_kFLN, l_kFLR, d_set0, d_setS, d_get0, d_getS, d_bt, d_bf, d_nt, d_nf, d_gi, o_add, o_sub, o_mul, o_mod, o_fdiv, o_pow, o_addS, o_mulS, o_idxT, o_sl, c_lt, c_le, c_gt, c_ge, c_eqI, c_isn, x_len, x_min3, x_max2, x_intB, x_isiV, x_for, List.map_cons, List.map_nil, List.cons_append, List.nil_append, List.replicate_succ, List.replicate_zero, Nat.reduceSub, Nat.reduceAdd, Int.reduceAbs, Nat.reduceLT, Nat.reducePow, Nat.reduceLeDiff, Int.reduceLE, Int.reduceLT, Int.le_refl, ne_eq, Int.reduceEq, not_false_eq_true, true_and, and_true, decide_true, decide_false, Int.reduceToNat, Int.toNat_zero, Int.toNat_one, List.getElem?_cons_succ, List.getElem?_cons_zero, if_true, if_false, Bool.false_eq_true]
      simp only [h1, decide_true, Bool.true_and] at h
      exact h
    · simp -implicitDefEqProofs only [h1, e_lookV, e_var, e_c, e_nil, e_cons, e_kEs1, e_kEs2, e_tup, e_kTup, e_lst, e_kLst, e_o2, e_kO1, e_kO2, e_o1, e_kU, e_oN, e_kN, e_neg, e_not, e_bl, e_kBool, e_blNil, e_blCons, e_onT, e_kBl, e_brBl1, e_brBl0, e_brBlN, e_brBlM, e_cmp, e_kCmp, e_cNil, e_cCons, e_kCh1, e_kCh2n, e_kCh20, e_kCh21, e_call, e_kCall, e_new, e_kNew, e_kInit, e_meth, e_kMeth2, s_assign, s_kAsg, s_kE, s_setAttr, s_kSA1, s_expr, s_kExp, s_ret, s_kRet, s_ret0, s_ite, s_brS1, s_brS0, s_pass, s_rais, s_try, s_kTry, s_hNil, s_brH1, s_brH0, s_kH, s_for, s_bOne, b_nil, b_cons, b_kSeqN, b_kSeqR, f_kFnN, f_kFnR, f_eFn, l_nil, l_cons, l_kFLN, l_kFLR, d_set0, d_setS, d_get0, d_getS, d_bt, d_bf, d_nt, d_nf, d_gi, o_add, o_sub, o_mul, o_mod, o_fdiv, o_pow, o_addS, o_mulS, o_idxT, o_sl, c_lt, c_le, c_gt, c_ge, c_eqI, c_isn, x_len, x_min3, x_max2, x_intB, x_isiV, x_for, List.map_cons, List.map_nil, List.cons_append, List.nil_append, List.replicate_succ, List.replicate_zero, Nat.reduceSub, Nat.reduceAdd, Int.reduceAbs, Nat.reduceLT, Nat.reducePow, Nat.reduceLeDiff, Int.reduceLE, Int.reduceLT, Int.le_refl, ne_eq, Int.reduceEq, not_false_eq_true, true_and, and_true, decide_true, decide_false, Int.reduceToNat, Int.toNat_zero, Int.toNat_one, List.getElem?_cons_succ, List.getElem?_cons_zero, if_true, if_false, Bool.false_eq_true]
      simp only [h1, decide_false, Bool.false_and] at h
      exact h
  | bool b =>
    simp -implicitDefEqProofs only [t_ii, t_bi, t_ib, t_bb, e_lookV, e_var, e_c, e_nil, e_cons, e_kEs1, e_kEs2, e_tup, e_kTup, e_lst, e_kLst, e_o2, e_kO1, e_kO2, e_o1, e_kU, e_oN, e_kN, e_neg, e_not, e_bl, e_kBool, e_blNil, e_blCons, e_onT, e_kBl, e_brBl1, e_brBl0, e_brBlN, e_brBlM, e_cmp, e_kCmp, e_cNil, e_cCons, e_kCh1, e_kCh2n, e_kCh20, e_kCh21, e_call, e_kCall, e_new, e_kNew, e_kInit, e_meth, e_kMeth2, s_assign, s_kAsg, s_kE, s_setAttr, s_kSA1, s_expr, s_kExp, s_ret, s_kRet, s_ret0, s_ite, s_brS1, s_brS0, s_pass, s_rais, s_try, s_kTry, s_hNil, s_brH1, s_brH0, s_kH, s_for, s_bOne, b_nil, b_cons, b_kSeqN, b_kSeqR, f_kFnN, f_kFnR, f_eFn, l_nil, l_cons, l_kFLN, l_kFLR, d_set0, d_setS, d_get0, d_getS, d_bt, d_bf, d_nt, d_nf, d_gi, o_add, o_sub, o_mul, o_mod, o_fdiv, o_pow, o_addS, o_mulS, o_idxT, o_sl, c_lt, c_le, c_gt, c_ge, c_eqI, c_isn, x_len, x_min3, x_max2, x_intB, x_isiV, x_for, List.map_cons, List.map_nil, List.cons_append, List.nil_append, List.replicate_succ, List.replicate_zero, Nat.reduceSub, Nat.reduceAdd, Int.reduceAbs, Nat.reduceLT, Nat.reducePow, Nat.reduceLeDiff, Int.reduceLE, Int.reduceLT, Int.le_refl, ne_eq, Int.reduceEq, not_false_eq_true, true_and, and_true, decide_true, decide_false, Int.reduceToNat, Int.toNat_zero, Int.toNat_one, List.getElem?_cons_succ, List.getElem?_cons_zero, if_true, if_false, Bool.false_eq_true, x_isi (v := .bool _) rfl]
    exact h
  | obj a => cases hv
  | exn a => cases hv
  | _ => exact h
/-- a sender -/
abbrev S (w r m b t : Int) : AObj := .inst 9 [(0, .int w), (1, .int r), (2, .int m), (3, .int b), (4, .int t)]
theorem init_wp {a : Nat} {w r m : Int} (h0 : σ a = some (.inst 9 [])) (h : ∀ σ', σ' a = some (S w r m 0 0) → (∀ b, b ≠ a → σ' b = σ b) → Q .none σ') : wpF prg (d + 1) 1 [.obj a, .int w, .int r, .int m] σ Q E := by
  refine wpF_in (fi := fn1) rfl rfl ?_
  simp -implicitDefEqProofs only [fn1, w1, e_lookV, e_var, e_c, e_nil, e_cons, e_kEs1, e_kEs2, e_tup, e_kTup, e_lst, e_kLst, e_o2, e_kO1, e_kO2, e_o1, e_kU, e_oN, e_kN, e_neg, e_not, e_bl, e_kBool, e_blNil, e_blCons, e_onT, e_kBl, e_brBl1, e_brBl0, e_brBlN, e_brBlM, e_cmp, e_kCmp, e_cNil, e_cCons, e_kCh1, e_kCh2n, e_kCh20, e_kCh21, e_call, e_kCall, e_new, e_kNew, e_kInit, e_meth, e_kMeth2, s_assign, s_kAsg, s_kE, s_setAttr, s_kSA1, s_expr, s_kExp, s_ret, s_kRet, s_ret0, s_ite, s_brS1, s_brS0, s_pass, s_rais, s_try, s_kTry, s_hNil, s_brH1, s_brH0, s_kH, s_for, s_bOne, b_nil, b_cons, b_kSeqN, b_kSeqR, f_kFnN, f_kFnR, f_eFn, l_nil, l_cons, l_kFLN, l_kFLR, d_set0, d_setS, d_get0, d_getS, d_bt, d_bf, d_nt, d_nf, d_gi, o_add, o_sub, o_mul, o_mod, o_fdiv, o_pow, o_addS, o_mulS, o_idxT, o_sl, c_lt, c_le, c_gt, c_ge, c_eqI, c_isn, x_len, x_min3, x_max2, x_intB, x_isiV, x_for, List.map_cons, List.map_nil, List.cons_append, List.nil_append, List.replicate_succ, List.replicate_zero, Nat.reduceSub, Nat.reduceAdd, Int.reduceAbs, Nat.reduceLT, Nat.reducePow, Nat.reduceLeDiff, Int.reduceLE, Int.reduceLT, Int.le_refl, ne_eq, Int.reduceEq, not_false_eq_true, true_and, and_true, decide_true, decide_false, Int.reduceToNat, Int.toNat_zero, Int.toNat_one, List.getElem?_cons_succ, List.getElem?_cons_zero, if_true, if_false, Bool.false_eq_true, x_setA h0 (f := 0) (by decide : (0 : Nat) < 100)]
  rw [show ∀ v : AV, putF 0 v [] = [(0, v)] from fun _ => rfl, x_setA (upd_self' _ _ _) (h' := ?hh)]
  case hh => exact Nat.le_of_ble_eq_true rfl
  simp -implicitDefEqProofs only [e_lookV, e_var, e_c, e_nil, e_cons, e_kEs1, e_kEs2, e_tup, e_kTup, e_lst, e_kLst, e_o2, e_kO1, e_kO2, e_o1, e_kU, e_oN, e_kN, e_neg, e_not, e_bl, e_kBool, e_blNil, e_blCons, e_onT, e_kBl, e_brBl1, e_brBl0, e_brBlN, e_brBlM, e_cmp, e_kCmp, e_cNil, e_cCons, e_kCh1, e_kCh2n, e_kCh20, e_kCh21, e_call, e_kCall, e_new, e_kNew, e_kInit, e_meth, e_kMeth2, s_assign, s_kAsg, s_kE, s_setAttr, s_kSA1, s_expr, s_kExp, s_ret, s_kRet, s_ret0, s_ite, s_brS1, s_brS0, s_pass, s_rais, s_try, s_kTry, s_hNil, s_brH1, s_brH0, s_kH, s_for, s_bOne, b_nil, b_cons, b_kSeqN, b_kSeqR, f_kFnN, f_kFnR, f_eFn, l_nil, l_cons, l_kFLN, l_kFLR, d_set0, d_setS, d_get0, d_getS, d_bt, d_bf, d_nt, d_nf, d_gi, o_add, o_sub, o_mul, o_mod, o_fdiv, o_pow, o_addS, o_mulS, o_idxT, o_sl, c_lt, c_le, c_gt, c_ge, c_eqI, c_isn, x_len, x_min3, x_max2, x_intB, x_isiV, x_for, List.map_cons, List.map_nil, List.cons_append, List.nil_append, List.replicate_succ, List.replicate_zero, Nat.reduceSub, Nat.reduceAdd, Int.reduceAbs, Nat.reduceLT, Nat.reducePow, Nat.reduceLeDiff, Int.reduceLE, Int.reduceLT, Int.le_refl, ne_eq, Int.reduceEq, not_false_eq_true, true_and, and_true, decide_true, decide_false, Int.reduceToNat, Int.toNat_zero, Int.toNat_one, List.getElem?_cons_succ, List.getElem?_cons_zero, if_true, if_false, Bool.false_eq_true]
  rw [show ∀ v x : AV, putF 1 v [(0, x)] = [(0, x), (1, v)] from fun _ _ => rfl, x_setA (upd_self' _ _ _) (h' := ?hh)]
  case hh => exact Nat.le_of_ble_eq_true rfl
  simp -implicitDefEqProofs only [e_lookV, e_var, e_c, e_nil, e_cons, e_kEs1, e_kEs2, e_tup, e_kTup, e_lst, e_kLst, e_o2, e_kO1, e_kO2, e_o1, e_kU, e_oN, e_kN, e_neg, e_not, e_bl, e_kBool, e_blNil, e_blCons, e_onT, e_kBl, e_brBl1, e_brBl0, e_brBlN, e_brBlM, e_cmp, e_kCmp, e_cNil, e_cCons, e_kCh1, e_kCh2n, e_kCh20, e_kCh21, e_call, e_kCall, e_new, e_kNew, e_kInit, e_meth, e_kMeth2, s_assign, s_kAsg, s_kE, s_setAttr, s_kSA1, s_expr, s_kExp, s_ret, s_kRet, s_ret0, s_ite, s_brS1, s_brS0, s_pass, s_rais, s_try, s_kTry, s_hNil, s_brH1, s_brH0, s_kH, s_for, s_bOne, b_nil, b_cons, b_kSeqN, b_kSeqR, f_kFnN, f_kFnR, f_eFn, l_nil, l_cons, l_kFLN, l_kFLR, d_set0, d_setS, d_get0, d_getS, d_bt, d_bf, d_nt, d_nf, d_gi, o_add, o_sub, o_mul, o_mod, o_fdiv, o_pow, o_addS, o_mulS, o_idxT, o_sl, c_lt, c_le, c_gt, c_ge, c_eqI, c_isn, x_len, x_min3, x_max2, x_intB, x_isiV, x_for, List.map_cons, List.map_nil, List.cons_append, List.nil_append, List.replicate_succ, List.replicate_zero, Nat.reduceSub, Nat.reduceAdd, Int.reduceAbs, Nat.reduceLT, Nat.reducePow, Nat.reduceLeDiff, Int.reduceLE, Int.reduceLT, Int.le_refl, ne_eq, Int.reduceEq, not_false_eq_true, true_and, and_true, decide_true, decide_false, Int.reduceToNat, Int.toNat_zero, Int.toNat_one, List.getElem?_cons_succ, List.getElem?_cons_zero, if_true, if_false, Bool.false_eq_true]
  rw [show ∀ v x y : AV, putF 2 v [(0, x), (1, y)] = [(0, x), (1, y), (2, v)] from fun _ _ _ => rfl, x_setA (upd_self' _ _ _) (h' := ?hh)]
  case hh => exact Nat.le_of_ble_eq_true rfl
  simp -implicitDefEqProofs only [e_lookV, e_var, e_c, e_nil, e_cons, e_kEs1, e_kEs2, e_tup, e_kTup, e_lst, e_kLst, e_o2, e_kO1, e_kO2, e_o1, e_kU, e_oN, e_kN, e_neg, e_not, e_bl, e_kBool, e_blNil, e_blCons, e_onT, e_kBl, e_brBl1, e_brBl0, e_brBlN, e_brBlM, e_cmp, e_kCmp, e_cNil, e_cCons, e_kCh1, e_kCh2n, e_kCh20, e_kCh21, e_call, e_kCall, e_new, e_kNew, e_kInit, e_meth, e_kMeth2, s_assign, s_kAsg, s_kE, s_setAttr, s_kSA1, s_expr, s_kExp, s_ret, s_kRet, s_ret0, s_ite, s_brS1, s_brS0, s_pass, s_rais, s_try, s_kTry, s_hNil, s_brH1, s_brH0, s_kH, s_for, s_bOne, b_nil, b_cons, b_kSeqN, b_kSeqR, f_kFnN, f_kFnR, f_eFn, l_nil, l_cons, l_kFLN, l_kFLR, d_set0, d_setS, d_get0, d_getS, d_bt, d_bf, d_nt, d_nf, d_gi, o_add, o_sub, o_mul, o_mod, o_fdiv, o_pow, o_addS, o_mulS, o_idxT, o_sl, c_lt, c_le, c_gt, c_ge, c_eqI, c_isn, x_len, x_min3, x_max2, x_intB, x_isiV, x_for, List.map_cons, List.map_nil, List.cons_append, List.nil_append, List.replicate_succ, List.replicate_zero, Nat.reduceSub, Nat.reduceAdd, Int.reduceAbs, Nat.reduceLT, Nat.reducePow, Nat.reduceLeDiff, Int.reduceLE, Int.reduceLT, Int.le_refl, ne_eq, Int.reduceEq, not_false_eq_true, true_and, and_true, decide_true, decide_false, Int.reduceToNat, Int.toNat_zero, Int.toNat_one, List.getElem?_cons_succ, List.getElem?_cons_zero, if_true, if_false, Bool.false_eq_true]
  rw [show ∀ v x y z : AV, putF 3 v [(0, x), (1, y), (2, z)] = [(0, x), (1, y), (2, z), (3, v)] from fun _ _ _ _ => rfl, x_setA (upd_self' _ _ _) (h' := ?hh)]
  case hh => exact Nat.le_of_ble_eq_true rfl
  refine h _ (upd_self' _ _ _) fun b hb => ?_
  simp only [upd_ne' _ _ hb]
theorem l0 {a b c d e : AV} : lookF [(0, a), (1, b), (2, c), (3, d), (4, e)] 0 = some a := rfl
theorem l1 {a b c d e : AV} : lookF [(0, a), (1, b), (2, c), (3, d), (4, e)] 1 = some b := rfl
theorem l2 {a b c d e : AV} : lookF [(0, a), (1, b), (2, c), (3, d), (4, e)] 2 = some c := rfl
theorem l3 {a b c d e : AV} : lookF [(0, a), (1, b), (2, c), (3, d), (4, e)] 3 = some d := rfl
theorem l4 {a b c d e : AV} : lookF [(0, a), (1, b), (2, c), (3, d), (4, e)] 4 = some e := rfl
theorem p3 {a b c d e v : AV} : putF 3 v [(0, a), (1, b), (2, c), (3, d), (4, e)] = [(0, a), (1, b), (2, c), (3, v), (4, e)] := rfl
theorem p4 {a b c d e v : AV} : putF 4 v [(0, a), (1, b), (2, c), (3, d), (4, e)] = [(0, a), (1, b), (2, c), (3, d), (4, v)] := rfl
theorem span_wp {a : Nat} {w r m b t : Int} (h0 : σ a = some (S w r m b t)) (h : Q (.tup [.int b, .int t]) σ) : wpF prg (d + 1) 2 [.obj a] σ Q E := by
  refine wpF_in (fi := fn2) rfl rfl ?_
  simp -implicitDefEqProofs only [fn2, w2, e_lookV, e_var, e_c, e_nil, e_cons, e_kEs1, e_kEs2, e_tup, e_kTup, e_lst, e_kLst, e_o2, e_kO1, e_kO2, e_o1, e_kU, e_oN, e_kN, e_neg, e_not, e_bl, e_kBool, e_blNil, e_blCons, e_onT, e_kBl, e_brBl1, e_brBl0, e_brBlN, e_brBlM, e_cmp, e_kCmp, e_cNil, e_cCons, e_kCh1, e_kCh2n, e_kCh20, e_kCh21, e_call, e_kCall, e_new, e_kNew, e_kInit, e_meth, e_kMeth2, s_assign, s_kAsg, s_kE, s_setAttr, s_kSA1, s_expr, s_kExp, s_ret, s_kRet, s_ret0, s_ite, s_brS1, s_brS0, s_pass, s_rais, s_try, s_kTry, s_hNil, s_brH1, s_brH0, s_kH, s_for, s_bOne, b_nil, b_cons, b_kSeqN, b_kSeqR, f_kFnN, f_kFnR, f_eFn, l_nil, l_cons, l_kFLN, l_kFLR, d_set0, d_setS, d_get0, d_getS, d_bt, d_bf, d_nt, d_nf, d_gi, o_add, o_sub, o_mul, o_mod, o_fdiv, o_pow, o_addS, o_mulS, o_idxT, o_sl, c_lt, c_le, c_gt, c_ge, c_eqI, c_isn, x_len, x_min3, x_max2, x_intB, x_isiV, x_for, List.map_cons, List.map_nil, List.cons_append, List.nil_append, List.replicate_succ, List.replicate_zero, Nat.reduceSub, Nat.reduceAdd, Int.reduceAbs, Nat.reduceLT, Nat.reducePow, Nat.reduceLeDiff, Int.reduceLE, Int.reduceLT, Int.le_refl, ne_eq, Int.reduceEq, not_false_eq_true, true_and, and_true, decide_true, decide_false, Int.reduceToNat, Int.toNat_zero, Int.toNat_one, List.getElem?_cons_succ, List.getElem?_cons_zero, if_true, if_false, Bool.false_eq_true, x_attr h0 l3, x_attr h0 l4]
  exact h
theorem heard_wp {a : Nat} {w r m b t n : Int} (h0 : σ a = some (S w r m b t)) (hr : r ≠ 0) (h : ∀ σ', σ' a = some (S w r m (if b + (n - b).fmod r ≤ t then b + (n - b).fmod r else b) t) → (∀ c, c ≠ a → σ' c = σ c) → Q .none σ') : wpF prg (d + 1) 4 [.obj a, .int n] σ Q E := by
  refine wpF_in (fi := fn4) rfl rfl ?_
  simp -implicitDefEqProofs only [fn4, w4, e_lookV, e_var, e_c, e_nil, e_cons, e_kEs1, e_kEs2, e_tup, e_kTup, e_lst, e_kLst, e_o2, e_kO1, e_kO2, e_o1, e_kU, e_oN, e_kN, e_neg, e_not, e_bl, e_kBool, e_blNil, e_blCons, e_onT, e_kBl, e_brBl1, e_brBl0, e_brBlN, e_brBlM, e_cmp, e_kCmp, e_cNil, e_cCons, e_kCh1, e_kCh2n, e_kCh20, e_kCh21, e_call, e_kCall, e_new, e_kNew, e_kInit, e_meth, e_kMeth2, s_assign, s_kAsg, s_kE, s_setAttr, s_kSA1, s_expr, s_kExp, s_ret, s_kRet, s_ret0, s_ite, s_brS1, s_brS0, s_pass, s_rais, s_try, s_kTry, s_hNil, s_brH1, s_brH0, s_kH, s_for, s_bOne, b_nil, b_cons, b_kSeqN, b_kSeqR, f_kFnN, f_kFnR, f_eFn, l_nil, l_cons, l_kFLN, l_kFLR, d_set0, d_setS, d_get0, d_getS, d_bt, d_bf, d_nt, d_nf, d_gi, o_add, o_sub, o_mul, o_mod, o_fdiv, o_pow, o_addS, o_mulS, o_idxT, o_sl, c_lt, c_le, c_gt, c_ge, c_eqI, c_isn, x_len, x_min3, x_max2, x_intB, x_isiV, x_for, List.map_cons, List.map_nil, List.cons_append, List.nil_append, List.replicate_succ, List.replicate_zero, Nat.reduceSub, Nat.reduceAdd, Int.reduceAbs, Nat.reduceLT, Nat.reducePow, Nat.reduceLeDiff, Int.reduceLE, Int.reduceLT, Int.le_refl, ne_eq, Int.reduceEq, not_false_eq_true, true_and, and_true, decide_true, decide_false, Int.reduceToNat, Int.toNat_zero, Int.toNat_one, List.getElem?_cons_succ, List.getElem?_cons_zero, if_true, if_false, Bool.false_eq_true, x_attr h0 l1, x_attr h0 l3, x_attr h0 l4, hr]
  by_cases hc : b + (n - b).fmod r ≤ t
  · simp -implicitDefEqProofs only [hc, e_lookV, e_var, e_c, e_nil, e_cons, e_kEs1, e_kEs2, e_tup, e_kTup, e_lst, e_kLst, e_o2, e_kO1, e_kO2, e_o1, e_kU, e_oN, e_kN, e_neg, e_not, e_bl, e_kBool, e_blNil, e_blCons, e_onT, e_kBl, e_brBl1, e_brBl0, e_brBlN, e_brBlM, e_cmp, e_kCmp, e_cNil, e_cCons, e_kCh1, e_kCh2n, e_kCh20, e_kCh21, e_call, e_kCall, e_new, e_kNew, e_kInit, e_meth, e_kMeth2, s_assign, s_kAsg, s_kE, s_setAttr, s_kSA1, s_expr, s_kExp, s_ret, s_kRet, s_ret0, s_ite, s_brS1, s_brS0, s_pass, s_rais, s_try, s_kTry, s_hNil, s_brH1, s_brH0, s_kH, s_for, s_bOne, b_nil, b_cons, b_kSeqN, b_kSeqR, f_kFnN, f_kFnR, f_eFn, l_nil, l_cons, l_kFLN, l_kFLR, d_set0, d_setS, d_get0, d_getS, d_bt, d_bf, d_nt, d_nf, d_gi, o_add, o_sub, o_mul, o_mod, o_fdiv, o_pow, o_addS, o_mulS, o_idxT, o_sl, c_lt, c_le, c_gt, c_ge, c_eqI, c_isn, x_len, x_min3, x_max2, x_intB, x_isiV, x_for, List.map_cons, List.map_nil, List.cons_append, List.nil_append, List.replicate_succ, List.replicate_zero, Nat.reduceSub, Nat.reduceAdd, Int.reduceAbs, Nat.reduceLT, Nat.reducePow, Nat.reduceLeDiff, Int.reduceLE, Int.reduceLT, Int.le_refl, ne_eq, Int.reduceEq, not_false_eq_true, true_and, and_true, decide_true, decide_false, Int.reduceToNat, Int.toNat_zero, Int.toNat_one, List.getElem?_cons_succ, List.getElem?_cons_zero, if_true, if_false, Bool.false_eq_true, x_attr h0 l3, x_setA h0 (f := 3) (by decide : (5 : Nat) < 100), p3]
    exact h _ (by rw [if_pos hc]; exact upd_self' _ _ _) fun c hcc => upd_ne' _ _ hcc
  · simp -implicitDefEqProofs only [hc, e_lookV, e_var, e_c, e_nil, e_cons, e_kEs1, e_kEs2, e_tup, e_kTup, e_lst, e_kLst, e_o2, e_kO1, e_kO2, e_o1, e_kU, e_oN, e_kN, e_neg, e_not, e_bl, e_kBool, e_blNil, e_blCons, e_onT, e_kBl, e_brBl1, e_brBl0, e_brBlN, e_brBlM, e_cmp, e_kCmp, e_cNil, e_cCons, e_kCh1, e_kCh2n, e_kCh20, e_kCh21, e_call, e_kCall, e_new, e_kNew, e_kInit, e_meth, e_kMeth2, s_assign, s_kAsg, s_kE, s_setAttr, s_kSA1, s_expr, s_kExp, s_ret, s_kRet, s_ret0, s_ite, s_brS1, s_brS0, s_pass, s_rais, s_try, s_kTry, s_hNil, s_brH1, s_brH0, s_kH, s_for, s_bOne, b_nil, b_cons, b_kSeqN, b_kSeqR, f_kFnN, f_kFnR, f_eFn, l_nil, l_cons, l_kFLN, l_kFLR, d_set0, d_setS, d_get0, d_getS, d_bt, d_bf, d_nt, d_nf, d_gi, o_add, o_sub, o_mul, o_mod, o_fdiv, o_pow, o_addS, o_mulS, o_idxT, o_sl, c_lt, c_le, c_gt, c_ge, c_eqI, c_isn, x_len, x_min3, x_max2, x_intB, x_isiV, x_for, List.map_cons, List.map_nil, List.cons_append, List.nil_append, List.replicate_succ, List.replicate_zero, Nat.reduceSub, Nat.reduceAdd, Int.reduceAbs, Nat.reduceLT, Nat.reducePow, Nat.reduceLeDiff, Int.reduceLE, Int.reduceLT, Int.le_refl, ne_eq, Int.reduceEq, not_false_eq_true, true_and, and_true, decide_true, decide_false, Int.reduceToNat, Int.toNat_zero, Int.toNat_one, List.getElem?_cons_succ, List.getElem?_cons_zero, if_true, if_false, Bool.false_eq_true]
    exact h _ (by rw [if_neg hc]; exact h0) fun c _ => rfl
def lastOf (w m b t : Int) : Int := if b + w - 1 < t then (if m - 1 < b + w - 1 then m - 1 else b + w - 1) else (if m - 1 < t then m - 1 else t)
theorem sent_in {a : Nat} {w r m b t : Int} {v : AV} (h0 : σ a = some (S w r m b t)) (hv : plainV v = true) (no : amongB v b (lastOf w m b t) = false → E 5 σ)
    (yes : ∀ k, v = .int k → amongB v b (lastOf w m b t) = true → r ≠ 0 ∧ ∀ σ', σ' a = some (S w r m b (if k = t then k + 1 else t)) → (∀ c, c ≠ a → σ' c = σ c) → Q (.int (k.fmod r)) σ') : wpF prg (d + 2) 3 [.obj a, v] σ Q E := by
  refine wpF_in (fi := fn3) rfl rfl ?_
  simp -implicitDefEqProofs only [fn3, w3, e_lookV, e_var, e_c, e_nil, e_cons, e_kEs1, e_kEs2, e_tup, e_kTup, e_lst, e_kLst, e_o2, e_kO1, e_kO2, e_o1, e_kU, e_oN, e_kN, e_neg, e_not, e_bl, e_kBool, e_blNil, e_blCons, e_onT, e_kBl, e_brBl1, e_brBl0, e_brBlN, e_brBlM, e_cmp, e_kCmp, e_cNil, e_cCons, e_kCh1, e_kCh2n, e_kCh20, e_kCh21, e_call, e_kCall, e_new, e_kNew, e_kInit, e_meth, e_kMeth2, s_assign, s_kAsg, s_kE, s_setAttr, s_kSA1, s_expr, s_kExp, s_ret, s_kRet, s_ret0, s_ite, s_brS1, s_brS0, s_pass, s_rais, s_try, s_kTry, s_hNil, s_brH1, s_brH0, s_kH, s_for, s_bOne, b_nil, b_cons, b_kSeqN, b_kSeqR, f_kFnN, f_kFnR, f_eFn, l_nil, l_cons, l_kFLN, l_kFLR, d_set0, d_setS, d_get0, d_getS, d_bt, d_bf, d_nt, d_nf, d_gi, o_add, o_sub, o_mul, o_mod, o_fdiv, o_pow, o_addS, o_mulS, o_idxT, o_sl, c_lt, c_le, c_gt, c_ge, c_eqI, c_isn, x_len, x_min3, x_max2, x_intB, x_isiV, x_for, List.map_cons, List.map_nil, List.cons_append, List.nil_append, List.replicate_succ, List.replicate_zero, Nat.reduceSub, Nat.reduceAdd, Int.reduceAbs, Nat.reduceLT, Nat.reducePow, Nat.reduceLeDiff, Int.reduceLE, Int.reduceLT, Int.le_refl, ne_eq, Int.reduceEq, not_false_eq_true, true_and, and_true, decide_true, decide_false, Int.reduceToNat, Int.toNat_zero, Int.toNat_one, List.getElem?_cons_succ, List.getElem?_cons_zero, if_true, if_false, Bool.false_eq_true, x_attr h0 l0, x_attr h0 l2, x_attr h0 l3, x_attr h0 l4]
  refine among_wp hv ?_
  simp -implicitDefEqProofs only [e_lookV, e_var, e_c, e_nil, e_cons, e_kEs1, e_kEs2, e_tup, e_kTup, e_lst, e_kLst, e_o2, e_kO1, e_kO2, e_o1, e_kU, e_oN, e_kN, e_neg, e_not, e_bl, e_kBool, e_blNil, e_blCons, e_onT, e_kBl, e_brBl1, e_brBl0, e_brBlN, e_brBlM, e_cmp, e_kCmp, e_cNil, e_cCons, e_kCh1, e_kCh2n, e_kCh20, e_kCh21, e_call, e_kCall, e_new, e_kNew, e_kInit, e_meth, e_kMeth2, s_assign, s_kAsg, s_kE, s_setAttr, s_kSA1, s_expr, s_kExp, s_ret, s_kRet, s_ret0, s_ite, s_brS1, s_brS0, s_pass, s_rais, s_try, s_kTry, s_hNil, s_brH1, s_brH0, s_kH, s_for, s_bOne, b_nil, b_cons, b_kSeqN, b_kSeqR, f_kFnN, f_kFnR, f_eFn, l_nil, l_cons, l_kFLN, l_kFLR, d_set0, d_setS, d_get0, d_getS, d_bt, d_bf, d_nt, d_nf, d_gi, o_add, o_sub, o_mul, o_mod, o_fdiv, o_pow, o_addS, o_mulS, o_idxT, o_sl, c_lt, c_le, c_gt, c_ge, c_eqI, c_isn, x_len, x_min3, x_max2, x_intB, x_isiV, x_for, List.map_cons, List.map_nil, List.cons_append, List.nil_append, List.replicate_succ, List.replicate_zero, Nat.reduceSub, Nat.reduceAdd, Int.reduceAbs, Nat.reduceLT, Nat.reducePow, Nat.reduceLeDiff, Int.reduceLE, Int.reduceLT, Int.le_refl, ne_eq, Int.reduceEq, not_false_eq_true, true_and, and_true, decide_true, decide_false, Int.reduceToNat, Int.toNat_zero, Int.toNat_one, List.getElem?_cons_succ, List.getElem?_cons_zero, if_true, if_false, Bool.false_eq_true]
  unfold lastOf at no yes
  revert no yes
  generalize hg : amongB v b _ = g
  intro no yes
  cases g with
  | false => exact no rfl
  | true =>
    cases v <;> first | cases hg | skip
    rename_i k
    obtain ⟨hr, yes⟩ := yes k rfl rfl
    simp -implicitDefEqProofs only [e_lookV, e_var, e_c, e_nil, e_cons, e_kEs1, e_kEs2, e_tup, e_kTup, e_lst, e_kLst, e_o2, e_kO1, e_kO2, e_o1, e_kU, e_oN, e_kN, e_neg, e_not, e_bl, e_kBool, e_blNil, e_blCons, e_onT, e_kBl, e_brBl1, e_brBl0, e_brBlN, e_brBlM, e_cmp, e_kCmp, e_cNil, e_cCons, e_kCh1, e_kCh2n, e_kCh20, e_kCh21, e_call, e_kCall, e_new, e_kNew, e_kInit, e_meth, e_kMeth2, s_assign, s_kAsg, s_kE, s_setAttr, s_kSA1, s_expr, s_kExp, s_ret, s_kRet, s_ret0, s_ite, s_brS1, s_brS0, s_pass, s_rais, s_try, s_kTry, s_hNil, s_brH1, s_brH0, s_kH, s_for, s_bOne, b_nil, b_cons, b_kSeqN, b_kSeqR, f_kFnN, f_kFnR, f_eFn, l_nil, l_cons, l_kFLN, l_kFLR, d_set0, d_setS, d_get0, d_getS, d_bt, d_bf, d_nt, d_nf, d_gi, o_add, o_sub, o_mul, o_mod, o_fdiv, o_pow, o_addS, o_mulS, o_idxT, o_sl, c_lt, c_le, c_gt, c_ge, c_eqI, c_isn, x_len, x_min3, x_max2, x_intB, x_isiV, x_for, List.map_cons, List.map_nil, List.cons_append, List.nil_append, List.replicate_succ, List.replicate_zero, Nat.reduceSub, Nat.reduceAdd, Int.reduceAbs, Nat.reduceLT, Nat.reducePow, Nat.reduceLeDiff, Int.reduceLE, Int.reduceLT, Int.le_refl, ne_eq, Int.reduceEq, not_false_eq_true, true_and, and_true, decide_true, decide_false, Int.reduceToNat, Int.toNat_zero, Int.toNat_one, List.getElem?_cons_succ, List.getElem?_cons_zero, if_true, if_false, Bool.false_eq_true, x_attr h0 l4]
    by_cases hc : k = t
    · subst hc
      simp -implicitDefEqProofs only [beq_self_eq_true, e_lookV, e_var, e_c, e_nil, e_cons, e_kEs1, e_kEs2, e_tup, e_kTup, e_lst, e_kLst, e_o2, e_kO1, e_kO2, e_o1, e_kU, e_oN, e_kN, e_neg, e_not, e_bl, e_kBool, e_blNil, e_blCons, e_onT, e_kBl, e_brBl1, e_brBl0, e_brBlN, e_brBlM, e_cmp, e_kCmp, e_cNil, e_cCons, e_kCh1, e_kCh2n, e_kCh20, e_kCh21, e_call, e_kCall, e_new, e_kNew, e_kInit, e_meth, e_kMeth2, s_assign, s_kAsg, s_kE, s_setAttr, s_kSA1, s_expr, s_kExp, s_ret, s_kRet, s_ret0, s_ite, s_brS1, s_brS0, s_pass, s_rais, s_try, s_kTry, s_hNil, s_brH1, s_brH0, s_kH, s_for, s_bOne, b_nil, b_cons, b_kSeqN, b_kSeqR, f_kFnN, f_kFnR, f_eFn, l_nil, l_cons, l_kFLN, l_kFLR, d_set0, d_setS, d_get0, d_getS, d_bt, d_bf, d_nt, d_nf, d_gi, o_add, o_sub, o_mul, o_mod, o_fdiv, o_pow, o_addS, o_mulS, o_idxT, o_sl, c_lt, c_le, c_gt, c_ge, c_eqI, c_isn, x_len, x_min3, x_max2, x_intB, x_isiV, x_for, List.map_cons, List.map_nil, List.cons_append, List.nil_append, List.replicate_succ, List.replicate_zero, Nat.reduceSub, Nat.reduceAdd, Int.reduceAbs, Nat.reduceLT, Nat.reducePow, Nat.reduceLeDiff, Int.reduceLE, Int.reduceLT, Int.le_refl, ne_eq, Int.reduceEq, not_false_eq_true, true_and, and_true, decide_true, decide_false, Int.reduceToNat, Int.toNat_zero, Int.toNat_one, List.getElem?_cons_succ, List.getElem?_cons_zero, if_true, if_false, Bool.false_eq_true, x_setA h0 (f := 4) (by decide : (5 : Nat) < 100), p4, x_attr (upd_self' _ _ _) l1, hr]
      exact yes _ (by rw [if_pos rfl]; exact upd_self' _ _ _) fun c hcc => upd_ne' _ _ hcc
    · simp -implicitDefEqProofs only [show (k == t) = false from beq_eq_false_iff_ne.mpr hc, e_lookV, e_var, e_c, e_nil, e_cons, e_kEs1, e_kEs2, e_tup, e_kTup, e_lst, e_kLst, e_o2, e_kO1, e_kO2, e_o1, e_kU, e_oN, e_kN, e_neg, e_not, e_bl, e_kBool, e_blNil, e_blCons, e_onT, e_kBl, e_brBl1, e_brBl0, e_brBlN, e_brBlM, e_cmp, e_kCmp, e_cNil, e_cCons, e_kCh1, e_kCh2n, e_kCh20, e_kCh21, e_call, e_kCall, e_new, e_kNew, e_kInit, e_meth, e_kMeth2, s_assign, s_kAsg, s_kE, s_setAttr, s_kSA1, s_expr, s_kExp, s_ret, s_kRet, s_ret0, s_ite, s_brS1, s_brS0, s_pass, s_rais, s_try, s_kTry, s_hNil, s_brH1, s_brH0, s_kH, s_for, s_bOne, b_nil, b_cons, b_kSeqN, b_kSeqR, f_kFnN, f_kFnR, f_eFn, l_nil, l_cons, l_kFLN, l_kFLR, d_set0, d_setS, d_get0, d_getS, d_bt, d_bf, d_nt, d_nf, d_gi, o_add, o_sub, o_mul, o_mod, o_fdiv, o_pow, o_addS, o_mulS, o_idxT, o_sl, c_lt, c_le, c_gt, c_ge, c_eqI, c_isn, x_len, x_min3, x_max2, x_intB, x_isiV, x_for, List.map_cons, List.map_nil, List.cons_append, List.nil_append, List.replicate_succ, List.replicate_zero, Nat.reduceSub, Nat.reduceAdd, Int.reduceAbs, Nat.reduceLT, Nat.reducePow, Nat.reduceLeDiff, Int.reduceLE, Int.reduceLT, Int.le_refl, ne_eq, Int.reduceEq, not_false_eq_true, true_and, and_true, decide_true, decide_false, Int.reduceToNat, Int.toNat_zero, Int.toNat_one, List.getElem?_cons_succ, List.getElem?_cons_zero, if_true, if_false, Bool.false_eq_true, x_attr h0 l1, hr]
      exact yes _ (by rw [if_neg hc]; exact h0) fun c _ => rfl
theorem sent_no {a : Nat} {w r m b t : Int} {v : AV} (h0 : σ a = some (S w r m b t)) (hv : plainV v = true) (hn : amongB v b (lastOf w m b t) = false) (h : E 5 σ) : wpF prg (d + 2) 3 [.obj a, v] σ Q E :=
  sent_in h0 hv (fun _ => h) fun k e q => by rw [hn] at q; cases q
theorem sent_yes {a : Nat} {w r m b t k : Int} (h0 : σ a = some (S w r m b t)) (hr : r ≠ 0) (hn : amongB (.int k) b (lastOf w m b t) = true) (h : ∀ σ', σ' a = some (S w r m b (if k = t then k + 1 else t)) → (∀ c, c ≠ a → σ' c = σ c) → Q (.int (k.fmod r)) σ') :
    wpF prg (d + 2) 3 [.obj a, .int k] σ Q E :=
  sent_in h0 rfl (fun q => by rw [hn] at q; cases q) fun k' e q => by cases e; exact ⟨hr, h⟩
end Ap.L02
end
section
set_option Elab.async false
set_option maxRecDepth 100000
set_option maxHeartbeats 1000000
set_option linter.unusedVariables false
set_option linter.unusedSimpArgs false
namespace Ap.L02
open PySem
variable {d : Nat} {σ : St} {Q : PQ} {E : PE}
theorem cls5 : clss[5]? = some ⟨Option.none, [], [5, 0]⟩ := rfl
theorem mul0 (x : Str) : Txt.mul x 0 = Str.empty := rfl
theorem mul1 (x : Str) : Txt.mul x 1 = x := by simp [Txt.mul]
theorem app0 (x : Str) : x ++ Str.empty = x := by
  show Str.mk (x.cps ++ #[]) = x
  rw [Array.append_empty]
theorem word_wp (h : Q (.str (Str.ofString "now")) σ) : wpF prg (d + 1) 8 [.exn 5] σ Q E := by
  have l1 : (Str.ofString "now").length ≤ 1000 := by decide +kernel
  have l2 : (Str.ofString "x").length ≤ 1000 := by decide +kernel
  have l3 : (Str.ofString "now").length ≤ 1000000 := by decide +kernel
  have l4 : (Str.empty).length = 0 := by decide +kernel
  have c5 : ([5, 0].contains 5) = true := rfl
  have c1 : ([5, 0].contains 1) = false := rfl
  have c2 : ([5, 0].contains 2) = false := rfl
  have c3 : ([5, 0].contains 3) = false := rfl
  have c4 : ([5, 0].contains 4) = false := rfl
  have c6 : ([5, 0].contains 6) = false := rfl
  have c7 : ([5, 0].contains 7) = false := rfl
  have c8 : ([5, 0].contains 8) = false := rfl
  refine wpF_in (fi := fn8) rfl rfl ?_
  simp -implicitDefEqProofs only [fn8, w8, e_lookV, e_var, e_c, e_nil, e_cons, e_kEs1, e_kEs2, e_tup, e_kTup, e_lst, e_kLst, e_o2, e_kO1, e_kO2, e_o1, e_kU, e_oN, e_kN, e_neg, e_not, e_bl, e_kBool, e_blNil, e_blCons, e_onT, e_kBl, e_brBl1, e_brBl0, e_brBlN, e_brBlM, e_cmp, e_kCmp, e_cNil, e_cCons, e_kCh1, e_kCh2n, e_kCh20, e_kCh21, e_call, e_kCall, e_new, e_kNew, e_kInit, e_meth, e_kMeth2, s_assign, s_kAsg, s_kE, s_setAttr, s_kSA1, s_expr, s_kExp, s_ret, s_kRet, s_ret0, s_ite, s_brS1, s_brS0, s_pass, s_rais, s_try, s_kTry, s_hNil, s_brH1, s_brH0, s_kH, s_for, s_bOne, b_nil, b_cons, b_kSeqN, b_kSeqR, f_kFnN, f_kFnR, f_eFn, l_nil, l_cons, l_kFLN, l_kFLR, d_set0, d_setS, d_get0, d_getS, d_bt, d_bf, d_nt, d_nf, d_gi, o_add, o_sub, o_mul, o_mod, o_fdiv, o_pow, o_addS, o_mulS, o_idxT, o_sl, c_lt, c_le, c_gt, c_ge, c_eqI, c_isn, x_len, x_min3, x_max2, x_intB, x_isiV, x_for, List.map_cons, List.map_nil, List.cons_append, List.nil_append, List.replicate_succ, List.replicate_zero, Nat.reduceSub, Nat.reduceAdd, Int.reduceAbs, Nat.reduceLT, Nat.reducePow, Nat.reduceLeDiff, Int.reduceLE, Int.reduceLT, Int.le_refl, ne_eq, Int.reduceEq, not_false_eq_true, true_and, and_true, decide_true, decide_false, Int.reduceToNat, Int.toNat_zero, Int.toNat_one, List.getElem?_cons_succ, List.getElem?_cons_zero, if_true, if_false, Bool.false_eq_true, x_isiX cls5, c1, c2, c3, c4, c5, c6, c7, c8, mul0, mul1, app0, l1, l2, l3, l4, Nat.add_zero]
  exact h
end Ap.L02
end
section
set_option Elab.async false
set_option maxRecDepth 100000
set_option maxHeartbeats 1000000
set_option linter.unusedVariables false
set_option linter.unusedSimpArgs false
namespace Ap.L02
open PySem
variable {d : Nat} {σ : St} {Q : PQ} {E : PE}
abbrev told (n : Int) : AV := .tup [.str (Str.ofString "told"), .int n]
abbrev refused : AV := .tup [.str (Str.ofString "refused"), .str (Str.ofString "now")]
theorem said_no {a : Nat} {w r m b t : Int} {v : AV} (h0 : σ a = some (S w r m b t)) (hv : plainV v = true) (hn : amongB v b (lastOf w m b t) = false) (h : Q refused σ) : wpF prg (d + 3) 9 [.obj a, v] σ Q E := by
  refine wpF_in (fi := fn9) rfl rfl ?_
  simp -implicitDefEqProofs only [fn9, w9, e_lookV, e_var, e_c, e_nil, e_cons, e_kEs1, e_kEs2, e_tup, e_kTup, e_lst, e_kLst, e_o2, e_kO1, e_kO2, e_o1, e_kU, e_oN, e_kN, e_neg, e_not, e_bl, e_kBool, e_blNil, e_blCons, e_onT, e_kBl, e_brBl1, e_brBl0, e_brBlN, e_brBlM, e_cmp, e_kCmp, e_cNil, e_cCons, e_kCh1, e_kCh2n, e_kCh20, e_kCh21, e_call, e_kCall, e_new, e_kNew, e_kInit, e_meth, e_kMeth2, s_assign, s_kAsg, s_kE, s_setAttr, s_kSA1, s_expr, s_kExp, s_ret, s_kRet, s_ret0, s_ite, s_brS1, s_brS0, s_pass, s_rais, s_try, s_kTry, s_hNil, s_brH1, s_brH0, s_kH, s_for, s_bOne, b_nil, b_cons, b_kSeqN, b_kSeqR, f_kFnN, f_kFnR, f_eFn, l_nil, l_cons, l_kFLN, l_kFLR, d_set0, d_setS, d_get0, d_getS, d_bt, d_bf, d_nt, d_nf, d_gi, o_add, o_sub, o_mul, o_mod, o_fdiv, o_pow, o_addS, o_mulS, o_idxT, o_sl, c_lt, c_le, c_gt, c_ge, c_eqI, c_isn, x_len, x_min3, x_max2, x_intB, x_isiV, x_for, List.map_cons, List.map_nil, List.cons_append, List.nil_append, List.replicate_succ, List.replicate_zero, Nat.reduceSub, Nat.reduceAdd, Int.reduceAbs, Nat.reduceLT, Nat.reducePow, Nat.reduceLeDiff, Int.reduceLE, Int.reduceLT, Int.le_refl, ne_eq, Int.reduceEq, not_false_eq_true, true_and, and_true, decide_true, decide_false, Int.reduceToNat, Int.toNat_zero, Int.toNat_one, List.getElem?_cons_succ, List.getElem?_cons_zero, if_true, if_false, Bool.false_eq_true, x_meth (m := 6) h0 rfl]
  refine sent_no h0 hv hn ?_
  simp -implicitDefEqProofs only [e_lookV, e_var, e_c, e_nil, e_cons, e_kEs1, e_kEs2, e_tup, e_kTup, e_lst, e_kLst, e_o2, e_kO1, e_kO2, e_o1, e_kU, e_oN, e_kN, e_neg, e_not, e_bl, e_kBool, e_blNil, e_blCons, e_onT, e_kBl, e_brBl1, e_brBl0, e_brBlN, e_brBlM, e_cmp, e_kCmp, e_cNil, e_cCons, e_kCh1, e_kCh2n, e_kCh20, e_kCh21, e_call, e_kCall, e_new, e_kNew, e_kInit, e_meth, e_kMeth2, s_assign, s_kAsg, s_kE, s_setAttr, s_kSA1, s_expr, s_kExp, s_ret, s_kRet, s_ret0, s_ite, s_brS1, s_brS0, s_pass, s_rais, s_try, s_kTry, s_hNil, s_brH1, s_brH0, s_kH, s_for, s_bOne, b_nil, b_cons, b_kSeqN, b_kSeqR, f_kFnN, f_kFnR, f_eFn, l_nil, l_cons, l_kFLN, l_kFLR, d_set0, d_setS, d_get0, d_getS, d_bt, d_bf, d_nt, d_nf, d_gi, o_add, o_sub, o_mul, o_mod, o_fdiv, o_pow, o_addS, o_mulS, o_idxT, o_sl, c_lt, c_le, c_gt, c_ge, c_eqI, c_isn, x_len, x_min3, x_max2, x_intB, x_isiV, x_for, List.map_cons, List.map_nil, List.cons_append, List.nil_append, List.replicate_succ, List.replicate_zero, Nat.reduceSub, Nat.reduceAdd, Int.reduceAbs, Nat.reduceLT, Nat.reducePow, Nat.reduceLeDiff, Int.reduceLE, Int.reduceLT, Int.le_refl, ne_eq, Int.reduceEq, not_false_eq_true, true_and, and_true, decide_true, decide_false, Int.reduceToNat, Int.toNat_zero, Int.toNat_one, List.getElem?_cons_succ, List.getElem?_cons_zero, if_true, if_false, Bool.false_eq_true, x_hCons cls5, show ([5, 0].contains 0) = true from rfl]
  refine word_wp ?_
  simp -implicitDefEqProofs only [e_lookV, e_var, e_c, e_nil, e_cons, e_kEs1, e_kEs2, e_tup, e_kTup, e_lst, e_kLst, e_o2, e_kO1, e_kO2, e_o1, e_kU, e_oN, e_kN, e_neg, e_not, e_bl, e_kBool, e_blNil, e_blCons, e_onT, e_kBl, e_brBl1, e_brBl0, e_brBlN, e_brBlM, e_cmp, e_kCmp, e_cNil, e_cCons, e_kCh1, e_kCh2n, e_kCh20, e_kCh21, e_call, e_kCall, e_new, e_kNew, e_kInit, e_meth, e_kMeth2, s_assign, s_kAsg, s_kE, s_setAttr, s_kSA1, s_expr, s_kExp, s_ret, s_kRet, s_ret0, s_ite, s_brS1, s_brS0, s_pass, s_rais, s_try, s_kTry, s_hNil, s_brH1, s_brH0, s_kH, s_for, s_bOne, b_nil, b_cons, b_kSeqN, b_kSeqR, f_kFnN, f_kFnR, f_eFn, l_nil, l_cons, l_kFLN, l_kFLR, d_set0, d_setS, d_get0, d_getS, d_bt, d_bf, d_nt, d_nf, d_gi, o_add, o_sub, o_mul, o_mod, o_fdiv, o_pow, o_addS, o_mulS, o_idxT, o_sl, c_lt, c_le, c_gt, c_ge, c_eqI, c_isn, x_len, x_min3, x_max2, x_intB, x_isiV, x_for, List.map_cons, List.map_nil, List.cons_append, List.nil_append, List.replicate_succ, List.replicate_zero, Nat.reduceSub, Nat.reduceAdd, Int.reduceAbs, Nat.reduceLT, Nat.reducePow, Nat.reduceLeDiff, Int.reduceLE, Int.reduceLT, Int.le_refl, ne_eq, Int.reduceEq, not_false_eq_true, true_and, and_true, decide_true, decide_false, Int.reduceToNat, Int.toNat_zero, Int.toNat_one, List.getElem?_cons_succ, List.getElem?_cons_zero, if_true, if_false, Bool.false_eq_true]
  exact h
theorem said_yes {a : Nat} {w r m b t k : Int} (h0 : σ a = some (S w r m b t)) (hr : r ≠ 0) (hn : amongB (.int k) b (lastOf w m b t) = true) (h : ∀ σ', σ' a = some (S w r m b (if k = t then k + 1 else t)) → (∀ c, c ≠ a → σ' c = σ c) → Q (told (k.fmod r)) σ') : wpF prg (d + 3) 9 [.obj a, .int k] σ Q E := by
  refine wpF_in (fi := fn9) rfl rfl ?_
  simp -implicitDefEqProofs only [fn9, w9, e_lookV, e_var, e_c, e_nil, e_cons, e_kEs1, e_kEs2, e_tup, e_kTup, e_lst, e_kLst, e_o2, e_kO1, e_kO2, e_o1, e_kU, e_oN, e_kN, e_neg, e_not, e_bl, e_kBool, e_blNil, e_blCons, e_onT, e_kBl, e_brBl1, e_brBl0, e_brBlN, e_brBlM, e_cmp, e_kCmp, e_cNil, e_cCons, e_kCh1, e_kCh2n, e_kCh20, e_kCh21, e_call, e_kCall, e_new, e_kNew, e_kInit, e_meth, e_kMeth2, s_assign, s_kAsg, s_kE, s_setAttr, s_kSA1, s_expr, s_kExp, s_ret, s_kRet, s_ret0, s_ite, s_brS1, s_brS0, s_pass, s_rais, s_try, s_kTry, s_hNil, s_brH1, s_brH0, s_kH, s_for, s_bOne, b_nil, b_cons, b_kSeqN, b_kSeqR, f_kFnN, f_kFnR, f_eFn, l_nil, l_cons, l_kFLN, l_kFLR, d_set0, d_setS, d_get0, d_getS, d_bt, d_bf, d_nt, d_nf, d_gi, o_add, o_sub, o_mul, o_mod, o_fdiv, o_pow, o_addS, o_mulS, o_idxT, o_sl, c_lt, c_le, c_gt, c_ge, c_eqI, c_isn, x_len, x_min3, x_max2, x_intB, x_isiV, x_for, List.map_cons, List.map_nil, List.cons_append, List.nil_append, List.replicate_succ, List.replicate_zero, Nat.reduceSub, Nat.reduceAdd, Int.reduceAbs, Nat.reduceLT, Nat.reducePow, Nat.reduceLeDiff, Int.reduceLE, Int.reduceLT, Int.le_refl, ne_eq, Int.reduceEq, not_false_eq_true, true_and, and_true, decide_true, decide_false, Int.reduceToNat, Int.toNat_zero, Int.toNat_one, List.getElem?_cons_succ, List.getElem?_cons_zero, if_true, if_false, Bool.false_eq_true, x_meth (m := 6) h0 rfl]
  refine sent_yes h0 hr hn fun σ' h1 h2 => ?_
  simp -implicitDefEqProofs only [e_lookV, e_var, e_c, e_nil, e_cons, e_kEs1, e_kEs2, e_tup, e_kTup, e_lst, e_kLst, e_o2, e_kO1, e_kO2, e_o1, e_kU, e_oN, e_kN, e_neg, e_not, e_bl, e_kBool, e_blNil, e_blCons, e_onT, e_kBl, e_brBl1, e_brBl0, e_brBlN, e_brBlM, e_cmp, e_kCmp, e_cNil, e_cCons, e_kCh1, e_kCh2n, e_kCh20, e_kCh21, e_call, e_kCall, e_new, e_kNew, e_kInit, e_meth, e_kMeth2, s_assign, s_kAsg, s_kE, s_setAttr, s_kSA1, s_expr, s_kExp, s_ret, s_kRet, s_ret0, s_ite, s_brS1, s_brS0, s_pass, s_rais, s_try, s_kTry, s_hNil, s_brH1, s_brH0, s_kH, s_for, s_bOne, b_nil, b_cons, b_kSeqN, b_kSeqR, f_kFnN, f_kFnR, f_eFn, l_nil, l_cons, l_kFLN, l_kFLR, d_set0, d_setS, d_get0, d_getS, d_bt, d_bf, d_nt, d_nf, d_gi, o_add, o_sub, o_mul, o_mod, o_fdiv, o_pow, o_addS, o_mulS, o_idxT, o_sl, c_lt, c_le, c_gt, c_ge, c_eqI, c_isn, x_len, x_min3, x_max2, x_intB, x_isiV, x_for, List.map_cons, List.map_nil, List.cons_append, List.nil_append, List.replicate_succ, List.replicate_zero, Nat.reduceSub, Nat.reduceAdd, Int.reduceAbs, Nat.reduceLT, Nat.reducePow, Nat.reduceLeDiff, Int.reduceLE, Int.reduceLT, Int.le_refl, ne_eq, Int.reduceEq, not_false_eq_true, true_and, and_true, decide_true, decide_false, Int.reduceToNat, Int.toNat_zero, Int.toNat_one, List.getElem?_cons_succ, List.getElem?_cons_zero, if_true, if_false, Bool.false_eq_true]
  exact h σ' h1 h2
theorem eq_pair {a b x y : Int} {K : Bool → Prop} : cEq (.tup [.int a, .int b]) (.tup [.int x, .int y]) σ K = K (a == x && (b == y && true)) := x_eq (p := .tuple [.int a, .int b]) (q := .tuple [.int x, .int y]) rfl rfl
theorem span_law {a : Nat} {w r m b t : Int} (h0 : σ a = some (S w r m b t)) (h : Q (.bool true) σ) : wpF prg (d + 2) 10 [.obj a, .int b, .int t] σ Q E := by
  refine wpF_in (fi := fn10) rfl rfl ?_
  simp -implicitDefEqProofs only [fn10, w10, e_lookV, e_var, e_c, e_nil, e_cons, e_kEs1, e_kEs2, e_tup, e_kTup, e_lst, e_kLst, e_o2, e_kO1, e_kO2, e_o1, e_kU, e_oN, e_kN, e_neg, e_not, e_bl, e_kBool, e_blNil, e_blCons, e_onT, e_kBl, e_brBl1, e_brBl0, e_brBlN, e_brBlM, e_cmp, e_kCmp, e_cNil, e_cCons, e_kCh1, e_kCh2n, e_kCh20, e_kCh21, e_call, e_kCall, e_new, e_kNew, e_kInit, e_meth, e_kMeth2, s_assign, s_kAsg, s_kE, s_setAttr, s_kSA1, s_expr, s_kExp, s_ret, s_kRet, s_ret0, s_ite, s_brS1, s_brS0, s_pass, s_rais, s_try, s_kTry, s_hNil, s_brH1, s_brH0, s_kH, s_for, s_bOne, b_nil, b_cons, b_kSeqN, b_kSeqR, f_kFnN, f_kFnR, f_eFn, l_nil, l_cons, l_kFLN, l_kFLR, d_set0, d_setS, d_get0, d_getS, d_bt, d_bf, d_nt, d_nf, d_gi, o_add, o_sub, o_mul, o_mod, o_fdiv, o_pow, o_addS, o_mulS, o_idxT, o_sl, c_lt, c_le, c_gt, c_ge, c_eqI, c_isn, x_len, x_min3, x_max2, x_intB, x_isiV, x_for, List.map_cons, List.map_nil, List.cons_append, List.nil_append, List.replicate_succ, List.replicate_zero, Nat.reduceSub, Nat.reduceAdd, Int.reduceAbs, Nat.reduceLT, Nat.reducePow, Nat.reduceLeDiff, Int.reduceLE, Int.reduceLT, Int.le_refl, ne_eq, Int.reduceEq, not_false_eq_true, true_and, and_true, decide_true, decide_false, Int.reduceToNat, Int.toNat_zero, Int.toNat_one, List.getElem?_cons_succ, List.getElem?_cons_zero, if_true, if_false, Bool.false_eq_true, x_meth (m := 5) h0 rfl]
  refine span_wp h0 ?_
  simp -implicitDefEqProofs only [e_lookV, e_var, e_c, e_nil, e_cons, e_kEs1, e_kEs2, e_tup, e_kTup, e_lst, e_kLst, e_o2, e_kO1, e_kO2, e_o1, e_kU, e_oN, e_kN, e_neg, e_not, e_bl, e_kBool, e_blNil, e_blCons, e_onT, e_kBl, e_brBl1, e_brBl0, e_brBlN, e_brBlM, e_cmp, e_kCmp, e_cNil, e_cCons, e_kCh1, e_kCh2n, e_kCh20, e_kCh21, e_call, e_kCall, e_new, e_kNew, e_kInit, e_meth, e_kMeth2, s_assign, s_kAsg, s_kE, s_setAttr, s_kSA1, s_expr, s_kExp, s_ret, s_kRet, s_ret0, s_ite, s_brS1, s_brS0, s_pass, s_rais, s_try, s_kTry, s_hNil, s_brH1, s_brH0, s_kH, s_for, s_bOne, b_nil, b_cons, b_kSeqN, b_kSeqR, f_kFnN, f_kFnR, f_eFn, l_nil, l_cons, l_kFLN, l_kFLR, d_set0, d_setS, d_get0, d_getS, d_bt, d_bf, d_nt, d_nf, d_gi, o_add, o_sub, o_mul, o_mod, o_fdiv, o_pow, o_addS, o_mulS, o_idxT, o_sl, c_lt, c_le, c_gt, c_ge, c_eqI, c_isn, x_len, x_min3, x_max2, x_intB, x_isiV, x_for, List.map_cons, List.map_nil, List.cons_append, List.nil_append, List.replicate_succ, List.replicate_zero, Nat.reduceSub, Nat.reduceAdd, Int.reduceAbs, Nat.reduceLT, Nat.reducePow, Nat.reduceLeDiff, Int.reduceLE, Int.reduceLT, Int.le_refl, ne_eq, Int.reduceEq, not_false_eq_true, true_and, and_true, decide_true, decide_false, Int.reduceToNat, Int.toNat_zero, Int.toNat_one, List.getElem?_cons_succ, List.getElem?_cons_zero, if_true, if_false, Bool.false_eq_true, x_isi (v := .tup _) rfl, t_tt, beq_self_eq_true, eq_pair, Bool.and_self]
  refine whole_wp rfl ?_
  simp -implicitDefEqProofs only [e_lookV, e_var, e_c, e_nil, e_cons, e_kEs1, e_kEs2, e_tup, e_kTup, e_lst, e_kLst, e_o2, e_kO1, e_kO2, e_o1, e_kU, e_oN, e_kN, e_neg, e_not, e_bl, e_kBool, e_blNil, e_blCons, e_onT, e_kBl, e_brBl1, e_brBl0, e_brBlN, e_brBlM, e_cmp, e_kCmp, e_cNil, e_cCons, e_kCh1, e_kCh2n, e_kCh20, e_kCh21, e_call, e_kCall, e_new, e_kNew, e_kInit, e_meth, e_kMeth2, s_assign, s_kAsg, s_kE, s_setAttr, s_kSA1, s_expr, s_kExp, s_ret, s_kRet, s_ret0, s_ite, s_brS1, s_brS0, s_pass, s_rais, s_try, s_kTry, s_hNil, s_brH1, s_brH0, s_kH, s_for, s_bOne, b_nil, b_cons, b_kSeqN, b_kSeqR, f_kFnN, f_kFnR, f_eFn, l_nil, l_cons, l_kFLN, l_kFLR, d_set0, d_setS, d_get0, d_getS, d_bt, d_bf, d_nt, d_nf, d_gi, o_add, o_sub, o_mul, o_mod, o_fdiv, o_pow, o_addS, o_mulS, o_idxT, o_sl, c_lt, c_le, c_gt, c_ge, c_eqI, c_isn, x_len, x_min3, x_max2, x_intB, x_isiV, x_for, List.map_cons, List.map_nil, List.cons_append, List.nil_append, List.replicate_succ, List.replicate_zero, Nat.reduceSub, Nat.reduceAdd, Int.reduceAbs, Nat.reduceLT, Nat.reducePow, Nat.reduceLeDiff, Int.reduceLE, Int.reduceLT, Int.le_refl, ne_eq, Int.reduceEq, not_false_eq_true, true_and, and_true, decide_true, decide_false, Int.reduceToNat, Int.toNat_zero, Int.toNat_one, List.getElem?_cons_succ, List.getElem?_cons_zero, if_true, if_false, Bool.false_eq_true, isInt]
  refine whole_wp rfl ?_
  simp -implicitDefEqProofs only [e_lookV, e_var, e_c, e_nil, e_cons, e_kEs1, e_kEs2, e_tup, e_kTup, e_lst, e_kLst, e_o2, e_kO1, e_kO2, e_o1, e_kU, e_oN, e_kN, e_neg, e_not, e_bl, e_kBool, e_blNil, e_blCons, e_onT, e_kBl, e_brBl1, e_brBl0, e_brBlN, e_brBlM, e_cmp, e_kCmp, e_cNil, e_cCons, e_kCh1, e_kCh2n, e_kCh20, e_kCh21, e_call, e_kCall, e_new, e_kNew, e_kInit, e_meth, e_kMeth2, s_assign, s_kAsg, s_kE, s_setAttr, s_kSA1, s_expr, s_kExp, s_ret, s_kRet, s_ret0, s_ite, s_brS1, s_brS0, s_pass, s_rais, s_try, s_kTry, s_hNil, s_brH1, s_brH0, s_kH, s_for, s_bOne, b_nil, b_cons, b_kSeqN, b_kSeqR, f_kFnN, f_kFnR, f_eFn, l_nil, l_cons, l_kFLN, l_kFLR, d_set0, d_setS, d_get0, d_getS, d_bt, d_bf, d_nt, d_nf, d_gi, o_add, o_sub, o_mul, o_mod, o_fdiv, o_pow, o_addS, o_mulS, o_idxT, o_sl, c_lt, c_le, c_gt, c_ge, c_eqI, c_isn, x_len, x_min3, x_max2, x_intB, x_isiV, x_for, List.map_cons, List.map_nil, List.cons_append, List.nil_append, List.replicate_succ, List.replicate_zero, Nat.reduceSub, Nat.reduceAdd, Int.reduceAbs, Nat.reduceLT, Nat.reducePow, Nat.reduceLeDiff, Int.reduceLE, Int.reduceLT, Int.le_refl, ne_eq, Int.reduceEq, not_false_eq_true, true_and, and_true, decide_true, decide_false, Int.reduceToNat, Int.toNat_zero, Int.toNat_one, List.getElem?_cons_succ, List.getElem?_cons_zero, if_true, if_false, Bool.false_eq_true, isInt]
  exact h
end Ap.L02
end
section
set_option Elab.async false
set_option maxRecDepth 100000
set_option maxHeartbeats 4000000
set_option linter.unusedVariables false
set_option linter.unusedSimpArgs false
namespace Ap.L02
open PySem
variable {d : Nat} {σ : St} {Q : PQ} {E : PE}
theorem idx_all {xs : List AV} {i : Int} (h0 : 0 ≤ i) (h1 : i < xs.length) (h : ∀ v ∈ xs, Q v σ) : oIdxL (.ilist xs) (.int i) σ Q := by
  rw [i_l]
  refine ⟨h0, ?_⟩
  have hl : i.toNat < xs.length := by omega
  rw [List.getElem?_eq_getElem hl]
  exact h _ (List.getElem_mem hl)
theorem ne_si {s : Str} {i : Int} {K : Bool → Prop} : cNe (.tup [.str s, .int i]) (.tup [.str s, .int i]) σ K = K (!(s == s && (i == i && true))) := x_ne (p := .tuple [.str s, .int i]) (q := .tuple [.str s, .int i]) rfl rfl
theorem ne_ss {s t : Str} {K : Bool → Prop} : cNe (.tup [.str s, .str t]) (.tup [.str s, .str t]) σ K = K (!(s == s && (t == t && true))) := x_ne (p := .tuple [.str s, .str t]) (q := .tuple [.str s, .str t]) rfl rfl
theorem fmod_nn {a b : Int} (h : 0 < b) : 0 ≤ a.fmod b := Int.fmod_nonneg_of_pos a h
theorem fmod_lt {a b : Int} (h : 0 < b) : a.fmod b < b := Int.fmod_lt_of_pos a h
theorem among_no {w m b t k : Int} (h : ¬ (b ≤ k ∧ k ≤ t ∧ k < b + w ∧ k < m)) : amongB (.int k) b (lastOf w m b t) = false := by
  show (decide (b ≤ k) && decide (k ≤ lastOf w m b t)) = false
  by_cases h1 : b ≤ k
  · rw [decide_eq_false (p := k ≤ lastOf w m b t), Bool.and_false]
    intro h2
    apply h
    unfold lastOf at h2
    split at h2 <;> split at h2 <;> omega
  · rw [decide_eq_false h1]; rfl
theorem among_yes {w m b t k : Int} (h : b ≤ k ∧ k ≤ t ∧ k < b + w ∧ k < m) : amongB (.int k) b (lastOf w m b t) = true := by
  unfold amongB lastOf
  simp only [Bool.and_eq_true, decide_eq_true_eq]
  refine ⟨h.1, ?_⟩
  split <;> split <;> omega
/-- the body of the loop -/
def body (F : Calls) : WS := (bCons (sAssign 10 (vO2 oFdiv (vVar 9) (vC (.int 3)))) (bCons (sIte (vCmp (vO2 oMod (vVar 9) (vC (.int 3))) (cCons cLt (vC (.int 2)) cNil)) (bCons (sAssign 11 (vLst false (lCons (vVar 8) (lCons (vO2 oAdd (vVar 7) (vO2 oMod (vO2 oFdiv (vVar 10) (vC (.int 4))) (vVar 2))) (lCons (vO2 oSub (vVar 7) (vC (.int 1))) (lCons (vO2 oAdd (vVar 7) (vVar 2)) (lCons (vO2 oAdd (vVar 8) (vC (.int 1))) (lCons (vVar 4) lNil)))))))) (bCons (sAssign 12 (vO2 oIdxL (vVar 11) (vO2 oIdxL (vLst false (lCons (vC (.int 0)) (lCons (vC (.int 0)) (lCons (vC (.int 1)) (lCons (vC (.int 1)) (lCons (vC (.int 2)) (lCons (vC (.int 3)) (lCons (vC (.int 4)) (lCons (vC (.int 5)) lNil))))))))) (vO2 oMod (vVar 10) (vC (.int 8)))))) (bCons (sIte (vBl (blCons true (vCmp (vVar 7) (cCons cLe (vVar 12) (cCons cLe (vVar 8) cNil))) (blCons true (vCmp (vVar 12) (cCons cLt (vO2 oAdd (vVar 7) (vVar 2)) cNil)) (blCons true (vCmp (vVar 12) (cCons cLt (vVar 4) cNil)) (blNil true))))) (bCons (sAssign 13 (vCall F 9 (lCons (vVar 5) (lCons (vVar 12) lNil)))) (bCons (sIte (vBl (blCons false (vCmp (vVar 13) (cCons cNe (vTup (lCons (vC (.str (Str.ofString "told"))) (lCons (vO2 oMod (vVar 12) (vVar 3)) lNil))) cNil)) (blCons false (vO1 oNot (vCall F 7 (lCons (vO2 oIdxT (vVar 13) (vC (.int 1))) lNil))) (blNil false)))) (bCons (sRet (vC (.bool false))) bNil) bNil) (bCons (sAssign 8 (vON oMax2 (lCons (vVar 8) (lCons (vO2 oAdd (vVar 12) (vC (.int 1))) lNil)))) bNil))) (bCons (sIte (vCmp (vCall F 9 (lCons (vVar 5) (lCons (vVar 12) lNil))) (cCons cNe (vTup (lCons (vC (.str (Str.ofString "refused"))) (lCons (vC (.str (Str.ofString "now"))) lNil))) cNil)) (bCons (sRet (vC (.bool false))) bNil) bNil) bNil)) bNil))) (bCons (sAssign 14 (vO2 oIdxL (vLst false (lCons (vO2 oMod (vVar 10) (vVar 3)) (lCons (vO2 oMod (vO2 oAdd (vVar 7) (vO2 oMod (vO2 oFdiv (vVar 10) (vC (.int 5))) (vO2 oAdd (vO2 oSub (vVar 8) (vVar 7)) (vC (.int 1))))) (vVar 3)) lNil))) (vO2 oMod (vO2 oFdiv (vO2 oMod (vVar 10) (vC (.int 5))) (vC (.int 2))) (vC (.int 2))))) (bCons (sAssign 15 (vO2 oMod (vO2 oSub (vVar 14) (vVar 7)) (vVar 3))) (bCons (sIte (vCmp (vMeth F 9 7 4 (vVar 5) (lCons (vVar 14) lNil)) (cCons cIsn (vC .none) cNil)) (bCons (sRet (vC (.bool false))) bNil) bNil) (bCons (sIte (vCmp (vO2 oAdd (vVar 7) (vVar 15)) (cCons cLe (vVar 8) cNil)) (bCons (sAssign 7 (vO2 oAdd (vVar 7) (vVar 15))) bNil) bNil) bNil))))) (bCons (sIte (vBl (blCons true (vCmp (vO2 oMod (vO2 oFdiv (vVar 9) (vC (.int 24))) (vC (.int 3))) (cCons cGt (vC (.int 0)) cNil)) (blCons true (vO1 oNot (vCall F 10 (lCons (vVar 5) (lCons (vVar 7) (lCons (vVar 8) lNil))))) (blNil true)))) (bCons (sRet (vC (.bool false))) bNil) bNil) bNil)))
def Inv (ns : List Int) (one w r m : Int) (a o : Nat) (ρ : Loc) (σ : St) : Prop :=
  ∃ b t x9 x10 x11 x12 x13 x14 x15 x16, ρ = [some (.ilist (ns.map .int)), some (.int one), some (.int w), some (.int r), some (.int m), some (.obj a), some (.obj o), some (.int b), some (.int t), x9, x10, x11, x12, x13, x14, x15, x16] ∧
    σ a = some (S w r m b t) ∧ σ o = some (S w r m 0 0) ∧ b ≤ t ∧ 0 ≤ b
/-- the end of the loop's body -/
def tailS (F : Calls) : WS := (bCons (sIte (vBl (blCons true (vCmp (vO2 oMod (vO2 oFdiv (vVar 9) (vC (.int 24))) (vC (.int 3))) (cCons cGt (vC (.int 0)) cNil)) (blCons true (vO1 oNot (vCall F 10 (lCons (vVar 5) (lCons (vVar 7) (lCons (vVar 8) lNil))))) (blNil true)))) (bCons (sRet (vC (.bool false))) bNil) bNil) bNil)
theorem iter {ns : List Int} {one w r m : Int} {a o : Nat} (ne : o ≠ a) (hw : 1 ≤ w) (hr : 1 ≤ r) {c : Int} {ρ : Loc} {R : QS} {EE : ES} (hi : Inv ns one w r m a o ρ σ) (hR : ∀ ρ' σ', Inv ns one w r m a o ρ' σ' → R .next ρ' σ') :
    bOne 9 (body (wpF prg (d + 4))) EE (.int c) ρ σ R := by
  obtain ⟨b, t, x9, x10, x11, x12, x13, x14, x15, x16, rfl, h1, h2, h3, h4⟩ := hi
  obtain ⟨K, hK⟩ : ∃ K, K = kSeq (tailS (wpF prg (d + 4))) R EE := ⟨_, rfl⟩
  have tail : ∀ (b t : Int) (x9 x10 x11 x12 x13 x14 x15 x16 : Option AV) (σ : St), σ a = some (S w r m b t) → σ o = some (S w r m 0 0) → b ≤ t → 0 ≤ b → 
      K .next [some (.ilist (ns.map .int)), some (.int one), some (.int w), some (.int r), some (.int m), some (.obj a), some (.obj o), some (.int b), some (.int t), some (.int c), x10, x11, x12, x13, x14, x15, x16] σ := by
    intro b t x9 x10 x11 x12 x13 x14 x15 x16 σ h1 h2 h3 h4
    rw [hK]
    simp -implicitDefEqProofs only [tailS, e_lookV, e_var, e_c, e_nil, e_cons, e_kEs1, e_kEs2, e_tup, e_kTup, e_lst, e_kLst, e_o2, e_kO1, e_kO2, e_o1, e_kU, e_oN, e_kN, e_neg, e_not, e_bl, e_kBool, e_blNil, e_blCons, e_onT, e_kBl, e_brBl1, e_brBl0, e_brBlN, e_brBlM, e_cmp, e_kCmp, e_cNil, e_cCons, e_kCh1, e_kCh2n, e_kCh20, e_kCh21, e_call, e_kCall, e_new, e_kNew, e_kInit, e_meth, e_kMeth2, s_assign, s_kAsg, s_kE, s_setAttr, s_kSA1, s_expr, s_kExp, s_ret, s_kRet, s_ret0, s_ite, s_brS1, s_brS0, s_pass, s_rais, s_try, s_kTry, s_hNil, s_brH1, s_brH0, s_kH, s_for, s_bOne, b_nil, b_cons, b_kSeqN, b_kSeqR, f_kFnN, f_kFnR, f_eFn, l_nil, l_cons, l_kFLN, l_kFLR, d_set0, d_setS, d_get0, d_getS, d_bt, d_bf, d_nt, d_nf, d_gi, o_add, o_sub, o_mul, o_mod, o_fdiv, o_pow, o_addS, o_mulS, o_idxT, o_sl, c_lt, c_le, c_gt, c_ge, c_eqI, c_isn, x_len, x_min3, x_max2, x_intB, x_isiV, x_for, List.map_cons, List.map_nil, List.cons_append, List.nil_append, List.replicate_succ, List.replicate_zero, Nat.reduceSub, Nat.reduceAdd, Int.reduceAbs, Nat.reduceLT, Nat.reducePow, Nat.reduceLeDiff, Int.reduceLE, Int.reduceLT, Int.le_refl, ne_eq, Int.reduceEq, not_false_eq_true, true_and, and_true, decide_true, decide_false, Int.reduceToNat, Int.toNat_zero, Int.toNat_one, List.getElem?_cons_succ, List.getElem?_cons_zero, if_true, if_false, Bool.false_eq_true]
    by_cases hc : (c.fdiv 24).fmod 3 > 0
    · simp -implicitDefEqProofs only [hc, e_lookV, e_var, e_c, e_nil, e_cons, e_kEs1, e_kEs2, e_tup, e_kTup, e_lst, e_kLst, e_o2, e_kO1, e_kO2, e_o1, e_kU, e_oN, e_kN, e_neg, e_not, e_bl, e_kBool, e_blNil, e_blCons, e_onT, e_kBl, e_brBl1, e_brBl0, e_brBlN, e_brBlM, e_cmp, e_kCmp, e_cNil, e_cCons, e_kCh1, e_kCh2n, e_kCh20, e_kCh21, e_call, e_kCall, e_new, e_kNew, e_kInit, e_meth, e_kMeth2, s_assign, s_kAsg, s_kE, s_setAttr, s_kSA1, s_expr, s_kExp, s_ret, s_kRet, s_ret0, s_ite, s_brS1, s_brS0, s_pass, s_rais, s_try, s_kTry, s_hNil, s_brH1, s_brH0, s_kH, s_for, s_bOne, b_nil, b_cons, b_kSeqN, b_kSeqR, f_kFnN, f_kFnR, f_eFn, l_nil, l_cons, l_kFLN, l_kFLR, d_set0, d_setS, d_get0, d_getS, d_bt, d_bf, d_nt, d_nf, d_gi, o_add, o_sub, o_mul, o_mod, o_fdiv, o_pow, o_addS, o_mulS, o_idxT, o_sl, c_lt, c_le, c_gt, c_ge, c_eqI, c_isn, x_len, x_min3, x_max2, x_intB, x_isiV, x_for, List.map_cons, List.map_nil, List.cons_append, List.nil_append, List.replicate_succ, List.replicate_zero, Nat.reduceSub, Nat.reduceAdd, Int.reduceAbs, Nat.reduceLT, Nat.reducePow, Nat.reduceLeDiff, Int.reduceLE, Int.reduceLT, Int.le_refl, ne_eq, Int.reduceEq, not_false_eq_true, true_and, and_true, decide_true, decide_false, Int.reduceToNat, Int.toNat_zero, Int.toNat_one, List.getElem?_cons_succ, List.getElem?_cons_zero, if_true, if_false, Bool.false_eq_true]
      refine span_law h1 ?_
      simp -implicitDefEqProofs only [e_lookV, e_var, e_c, e_nil, e_cons, e_kEs1, e_kEs2, e_tup, e_kTup, e_lst, e_kLst, e_o2, e_kO1, e_kO2, e_o1, e_kU, e_oN, e_kN, e_neg, e_not, e_bl, e_kBool, e_blNil, e_blCons, e_onT, e_kBl, e_brBl1, e_brBl0, e_brBlN, e_brBlM, e_cmp, e_kCmp, e_cNil, e_cCons, e_kCh1, e_kCh2n, e_kCh20, e_kCh21, e_call, e_kCall, e_new, e_kNew, e_kInit, e_meth, e_kMeth2, s_assign, s_kAsg, s_kE, s_setAttr, s_kSA1, s_expr, s_kExp, s_ret, s_kRet, s_ret0, s_ite, s_brS1, s_brS0, s_pass, s_rais, s_try, s_kTry, s_hNil, s_brH1, s_brH0, s_kH, s_for, s_bOne, b_nil, b_cons, b_kSeqN, b_kSeqR, f_kFnN, f_kFnR, f_eFn, l_nil, l_cons, l_kFLN, l_kFLR, d_set0, d_setS, d_get0, d_getS, d_bt, d_bf, d_nt, d_nf, d_gi, o_add, o_sub, o_mul, o_mod, o_fdiv, o_pow, o_addS, o_mulS, o_idxT, o_sl, c_lt, c_le, c_gt, c_ge, c_eqI, c_isn, x_len, x_min3, x_max2, x_intB, x_isiV, x_for, List.map_cons, List.map_nil, List.cons_append, List.nil_append, List.replicate_succ, List.replicate_zero, Nat.reduceSub, Nat.reduceAdd, Int.reduceAbs, Nat.reduceLT, Nat.reducePow, Nat.reduceLeDiff, Int.reduceLE, Int.reduceLT, Int.le_refl, ne_eq, Int.reduceEq, not_false_eq_true, true_and, and_true, decide_true, decide_false, Int.reduceToNat, Int.toNat_zero, Int.toNat_one, List.getElem?_cons_succ, List.getElem?_cons_zero, if_true, if_false, Bool.false_eq_true]
      exact hR _ _ ⟨b, t, _, _, _, _, _, _, _, _, rfl, h1, h2, h3, h4⟩
    · simp -implicitDefEqProofs only [hc, e_lookV, e_var, e_c, e_nil, e_cons, e_kEs1, e_kEs2, e_tup, e_kTup, e_lst, e_kLst, e_o2, e_kO1, e_kO2, e_o1, e_kU, e_oN, e_kN, e_neg, e_not, e_bl, e_kBool, e_blNil, e_blCons, e_onT, e_kBl, e_brBl1, e_brBl0, e_brBlN, e_brBlM, e_cmp, e_kCmp, e_cNil, e_cCons, e_kCh1, e_kCh2n, e_kCh20, e_kCh21, e_call, e_kCall, e_new, e_kNew, e_kInit, e_meth, e_kMeth2, s_assign, s_kAsg, s_kE, s_setAttr, s_kSA1, s_expr, s_kExp, s_ret, s_kRet, s_ret0, s_ite, s_brS1, s_brS0, s_pass, s_rais, s_try, s_kTry, s_hNil, s_brH1, s_brH0, s_kH, s_for, s_bOne, b_nil, b_cons, b_kSeqN, b_kSeqR, f_kFnN, f_kFnR, f_eFn, l_nil, l_cons, l_kFLN, l_kFLR, d_set0, d_setS, d_get0, d_getS, d_bt, d_bf, d_nt, d_nf, d_gi, o_add, o_sub, o_mul, o_mod, o_fdiv, o_pow, o_addS, o_mulS, o_idxT, o_sl, c_lt, c_le, c_gt, c_ge, c_eqI, c_isn, x_len, x_min3, x_max2, x_intB, x_isiV, x_for, List.map_cons, List.map_nil, List.cons_append, List.nil_append, List.replicate_succ, List.replicate_zero, Nat.reduceSub, Nat.reduceAdd, Int.reduceAbs, Nat.reduceLT, Nat.reducePow, Nat.reduceLeDiff, Int.reduceLE, Int.reduceLT, Int.le_refl, ne_eq, Int.reduceEq, not_false_eq_true, true_and, and_true, decide_true, decide_false, Int.reduceToNat, Int.toNat_zero, Int.toNat_one, List.getElem?_cons_succ, List.getElem?_cons_zero, if_true, if_false, Bool.false_eq_true]
      exact hR _ _ ⟨b, t, _, _, _, _, _, _, _, _, rfl, h1, h2, h3, h4⟩
  have wn : w ≠ 0 := by omega
  have rn : r ≠ 0 := by omega
  simp -implicitDefEqProofs only [body, e_lookV, e_var, e_c, e_nil, e_cons, e_kEs1, e_kEs2, e_tup, e_kTup, e_lst, e_kLst, e_o2, e_kO1, e_kO2, e_o1, e_kU, e_oN, e_kN, e_neg, e_not, e_bl, e_kBool, e_blNil, e_blCons, e_onT, e_kBl, e_brBl1, e_brBl0, e_brBlN, e_brBlM, e_cmp, e_kCmp, e_cNil, e_cCons, e_kCh1, e_kCh2n, e_kCh20, e_kCh21, e_call, e_kCall, e_new, e_kNew, e_kInit, e_meth, e_kMeth2, s_assign, s_kAsg, s_kE, s_setAttr, s_kSA1, s_expr, s_kExp, s_ret, s_kRet, s_ret0, s_ite, s_brS1, s_brS0, s_pass, s_rais, s_try, s_kTry, s_hNil, s_brH1, s_brH0, s_kH, s_for, s_bOne, b_nil, b_cons, b_kSeqN, b_kSeqR, f_kFnN, f_kFnR, f_eFn, l_nil, l_cons, l_kFLN, l_kFLR, d_set0, d_setS, d_get0, d_getS, d_bt, d_bf, d_nt, d_nf, d_gi, o_add, o_sub, o_mul, o_mod, o_fdiv, o_pow, o_addS, o_mulS, o_idxT, o_sl, c_lt, c_le, c_gt, c_ge, c_eqI, c_isn, x_len, x_min3, x_max2, x_intB, x_isiV, x_for, List.map_cons, List.map_nil, List.cons_append, List.nil_append, List.replicate_succ, List.replicate_zero, Nat.reduceSub, Nat.reduceAdd, Int.reduceAbs, Nat.reduceLT, Nat.reducePow, Nat.reduceLeDiff, Int.reduceLE, Int.reduceLT, Int.le_refl, ne_eq, Int.reduceEq, not_false_eq_true, true_and, and_true, decide_true, decide_false, Int.reduceToNat, Int.toNat_zero, Int.toNat_one, List.getElem?_cons_succ, List.getElem?_cons_zero, if_true, if_false, Bool.false_eq_true]
  unfold tailS at hK
  rw [← hK]
  clear hK hR
  by_cases h5 : c.fmod 3 < 2
  · simp -implicitDefEqProofs only [h5, wn, e_lookV, e_var, e_c, e_nil, e_cons, e_kEs1, e_kEs2, e_tup, e_kTup, e_lst, e_kLst, e_o2, e_kO1, e_kO2, e_o1, e_kU, e_oN, e_kN, e_neg, e_not, e_bl, e_kBool, e_blNil, e_blCons, e_onT, e_kBl, e_brBl1, e_brBl0, e_brBlN, e_brBlM, e_cmp, e_kCmp, e_cNil, e_cCons, e_kCh1, e_kCh2n, e_kCh20, e_kCh21, e_call, e_kCall, e_new, e_kNew, e_kInit, e_meth, e_kMeth2, s_assign, s_kAsg, s_kE, s_setAttr, s_kSA1, s_expr, s_kExp, s_ret, s_kRet, s_ret0, s_ite, s_brS1, s_brS0, s_pass, s_rais, s_try, s_kTry, s_hNil, s_brH1, s_brH0, s_kH, s_for, s_bOne, b_nil, b_cons, b_kSeqN, b_kSeqR, f_kFnN, f_kFnR, f_eFn, l_nil, l_cons, l_kFLN, l_kFLR, d_set0, d_setS, d_get0, d_getS, d_bt, d_bf, d_nt, d_nf, d_gi, o_add, o_sub, o_mul, o_mod, o_fdiv, o_pow, o_addS, o_mulS, o_idxT, o_sl, c_lt, c_le, c_gt, c_ge, c_eqI, c_isn, x_len, x_min3, x_max2, x_intB, x_isiV, x_for, List.map_cons, List.map_nil, List.cons_append, List.nil_append, List.replicate_succ, List.replicate_zero, Nat.reduceSub, Nat.reduceAdd, Int.reduceAbs, Nat.reduceLT, Nat.reducePow, Nat.reduceLeDiff, Int.reduceLE, Int.reduceLT, Int.le_refl, ne_eq, Int.reduceEq, not_false_eq_true, true_and, and_true, decide_true, decide_false, Int.reduceToNat, Int.toNat_zero, Int.toNat_one, List.getElem?_cons_succ, List.getElem?_cons_zero, if_true, if_false, Bool.false_eq_true]
    refine idx_all (fmod_nn (by decide)) (fmod_lt (by decide)) fun v hv => ?_
    obtain ⟨j, rfl, j0, j1⟩ : ∃ j : Int, v = .int j ∧ 0 ≤ j ∧ j < 6 := by
      simp only [List.mem_cons, List.not_mem_nil, or_false] at hv
      rcases hv with rfl | rfl | rfl | rfl | rfl | rfl | rfl | rfl <;> exact ⟨_, rfl, by decide, by decide⟩
    simp -implicitDefEqProofs only [e_lookV, e_var, e_c, e_nil, e_cons, e_kEs1, e_kEs2, e_tup, e_kTup, e_lst, e_kLst, e_o2, e_kO1, e_kO2, e_o1, e_kU, e_oN, e_kN, e_neg, e_not, e_bl, e_kBool, e_blNil, e_blCons, e_onT, e_kBl, e_brBl1, e_brBl0, e_brBlN, e_brBlM, e_cmp, e_kCmp, e_cNil, e_cCons, e_kCh1, e_kCh2n, e_kCh20, e_kCh21, e_call, e_kCall, e_new, e_kNew, e_kInit, e_meth, e_kMeth2, s_assign, s_kAsg, s_kE, s_setAttr, s_kSA1, s_expr, s_kExp, s_ret, s_kRet, s_ret0, s_ite, s_brS1, s_brS0, s_pass, s_rais, s_try, s_kTry, s_hNil, s_brH1, s_brH0, s_kH, s_for, s_bOne, b_nil, b_cons, b_kSeqN, b_kSeqR, f_kFnN, f_kFnR, f_eFn, l_nil, l_cons, l_kFLN, l_kFLR, d_set0, d_setS, d_get0, d_getS, d_bt, d_bf, d_nt, d_nf, d_gi, o_add, o_sub, o_mul, o_mod, o_fdiv, o_pow, o_addS, o_mulS, o_idxT, o_sl, c_lt, c_le, c_gt, c_ge, c_eqI, c_isn, x_len, x_min3, x_max2, x_intB, x_isiV, x_for, List.map_cons, List.map_nil, List.cons_append, List.nil_append, List.replicate_succ, List.replicate_zero, Nat.reduceSub, Nat.reduceAdd, Int.reduceAbs, Nat.reduceLT, Nat.reducePow, Nat.reduceLeDiff, Int.reduceLE, Int.reduceLT, Int.le_refl, ne_eq, Int.reduceEq, not_false_eq_true, true_and, and_true, decide_true, decide_false, Int.reduceToNat, Int.toNat_zero, Int.toNat_one, List.getElem?_cons_succ, List.getElem?_cons_zero, if_true, if_false, Bool.false_eq_true]
    refine idx_all j0 j1 fun v hv => ?_
    obtain ⟨k, rfl⟩ : ∃ k : Int, v = .int k := by
      simp only [List.mem_cons, List.not_mem_nil, or_false] at hv
      rcases hv with rfl | rfl | rfl | rfl | rfl | rfl <;> exact ⟨_, rfl⟩
    simp -implicitDefEqProofs only [e_lookV, e_var, e_c, e_nil, e_cons, e_kEs1, e_kEs2, e_tup, e_kTup, e_lst, e_kLst, e_o2, e_kO1, e_kO2, e_o1, e_kU, e_oN, e_kN, e_neg, e_not, e_bl, e_kBool, e_blNil, e_blCons, e_onT, e_kBl, e_brBl1, e_brBl0, e_brBlN, e_brBlM, e_cmp, e_kCmp, e_cNil, e_cCons, e_kCh1, e_kCh2n, e_kCh20, e_kCh21, e_call, e_kCall, e_new, e_kNew, e_kInit, e_meth, e_kMeth2, s_assign, s_kAsg, s_kE, s_setAttr, s_kSA1, s_expr, s_kExp, s_ret, s_kRet, s_ret0, s_ite, s_brS1, s_brS0, s_pass, s_rais, s_try, s_kTry, s_hNil, s_brH1, s_brH0, s_kH, s_for, s_bOne, b_nil, b_cons, b_kSeqN, b_kSeqR, f_kFnN, f_kFnR, f_eFn, l_nil, l_cons, l_kFLN, l_kFLR, d_set0, d_setS, d_get0, d_getS, d_bt, d_bf, d_nt, d_nf, d_gi, o_add, o_sub, o_mul, o_mod, o_fdiv, o_pow, o_addS, o_mulS, o_idxT, o_sl, c_lt, c_le, c_gt, c_ge, c_eqI, c_isn, x_len, x_min3, x_max2, x_intB, x_isiV, x_for, List.map_cons, List.map_nil, List.cons_append, List.nil_append, List.replicate_succ, List.replicate_zero, Nat.reduceSub, Nat.reduceAdd, Int.reduceAbs, Nat.reduceLT, Nat.reducePow, Nat.reduceLeDiff, Int.reduceLE, Int.reduceLT, Int.le_refl, ne_eq, Int.reduceEq, not_false_eq_true, true_and, and_true, decide_true, decide_false, Int.reduceToNat, Int.toNat_zero, Int.toNat_one, List.getElem?_cons_succ, List.getElem?_cons_zero, if_true, if_false, Bool.false_eq_true]
    by_cases hk : b ≤ k ∧ k ≤ t ∧ k < b + w ∧ k < m
    · simp -implicitDefEqProofs only [hk.1, hk.2.1, hk.2.2.1, hk.2.2.2, e_lookV, e_var, e_c, e_nil, e_cons, e_kEs1, e_kEs2, e_tup, e_kTup, e_lst, e_kLst, e_o2, e_kO1, e_kO2, e_o1, e_kU, e_oN, e_kN, e_neg, e_not, e_bl, e_kBool, e_blNil, e_blCons, e_onT, e_kBl, e_brBl1, e_brBl0, e_brBlN, e_brBlM, e_cmp, e_kCmp, e_cNil, e_cCons, e_kCh1, e_kCh2n, e_kCh20, e_kCh21, e_call, e_kCall, e_new, e_kNew, e_kInit, e_meth, e_kMeth2, s_assign, s_kAsg, s_kE, s_setAttr, s_kSA1, s_expr, s_kExp, s_ret, s_kRet, s_ret0, s_ite, s_brS1, s_brS0, s_pass, s_rais, s_try, s_kTry, s_hNil, s_brH1, s_brH0, s_kH, s_for, s_bOne, b_nil, b_cons, b_kSeqN, b_kSeqR, f_kFnN, f_kFnR, f_eFn, l_nil, l_cons, l_kFLN, l_kFLR, d_set0, d_setS, d_get0, d_getS, d_bt, d_bf, d_nt, d_nf, d_gi, o_add, o_sub, o_mul, o_mod, o_fdiv, o_pow, o_addS, o_mulS, o_idxT, o_sl, c_lt, c_le, c_gt, c_ge, c_eqI, c_isn, x_len, x_min3, x_max2, x_intB, x_isiV, x_for, List.map_cons, List.map_nil, List.cons_append, List.nil_append, List.replicate_succ, List.replicate_zero, Nat.reduceSub, Nat.reduceAdd, Int.reduceAbs, Nat.reduceLT, Nat.reducePow, Nat.reduceLeDiff, Int.reduceLE, Int.reduceLT, Int.le_refl, ne_eq, Int.reduceEq, not_false_eq_true, true_and, and_true, decide_true, decide_false, Int.reduceToNat, Int.toNat_zero, Int.toNat_one, List.getElem?_cons_succ, List.getElem?_cons_zero, if_true, if_false, Bool.false_eq_true]
      refine said_yes h1 rn (among_yes hk) fun σ' e1 e2 => ?_
      simp -implicitDefEqProofs only [e_lookV, e_var, e_c, e_nil, e_cons, e_kEs1, e_kEs2, e_tup, e_kTup, e_lst, e_kLst, e_o2, e_kO1, e_kO2, e_o1, e_kU, e_oN, e_kN, e_neg, e_not, e_bl, e_kBool, e_blNil, e_blCons, e_onT, e_kBl, e_brBl1, e_brBl0, e_brBlN, e_brBlM, e_cmp, e_kCmp, e_cNil, e_cCons, e_kCh1, e_kCh2n, e_kCh20, e_kCh21, e_call, e_kCall, e_new, e_kNew, e_kInit, e_meth, e_kMeth2, s_assign, s_kAsg, s_kE, s_setAttr, s_kSA1, s_expr, s_kExp, s_ret, s_kRet, s_ret0, s_ite, s_brS1, s_brS0, s_pass, s_rais, s_try, s_kTry, s_hNil, s_brH1, s_brH0, s_kH, s_for, s_bOne, b_nil, b_cons, b_kSeqN, b_kSeqR, f_kFnN, f_kFnR, f_eFn, l_nil, l_cons, l_kFLN, l_kFLR, d_set0, d_setS, d_get0, d_getS, d_bt, d_bf, d_nt, d_nf, d_gi, o_add, o_sub, o_mul, o_mod, o_fdiv, o_pow, o_addS, o_mulS, o_idxT, o_sl, c_lt, c_le, c_gt, c_ge, c_eqI, c_isn, x_len, x_min3, x_max2, x_intB, x_isiV, x_for, List.map_cons, List.map_nil, List.cons_append, List.nil_append, List.replicate_succ, List.replicate_zero, Nat.reduceSub, Nat.reduceAdd, Int.reduceAbs, Nat.reduceLT, Nat.reducePow, Nat.reduceLeDiff, Int.reduceLE, Int.reduceLT, Int.le_refl, ne_eq, Int.reduceEq, not_false_eq_true, true_and, and_true, decide_true, decide_false, Int.reduceToNat, Int.toNat_zero, Int.toNat_one, List.getElem?_cons_succ, List.getElem?_cons_zero, if_true, if_false, Bool.false_eq_true, rn, ne_si, beq_self_eq_true, Bool.and_self]
      refine whole_wp rfl ?_
      simp -implicitDefEqProofs only [e_lookV, e_var, e_c, e_nil, e_cons, e_kEs1, e_kEs2, e_tup, e_kTup, e_lst, e_kLst, e_o2, e_kO1, e_kO2, e_o1, e_kU, e_oN, e_kN, e_neg, e_not, e_bl, e_kBool, e_blNil, e_blCons, e_onT, e_kBl, e_brBl1, e_brBl0, e_brBlN, e_brBlM, e_cmp, e_kCmp, e_cNil, e_cCons, e_kCh1, e_kCh2n, e_kCh20, e_kCh21, e_call, e_kCall, e_new, e_kNew, e_kInit, e_meth, e_kMeth2, s_assign, s_kAsg, s_kE, s_setAttr, s_kSA1, s_expr, s_kExp, s_ret, s_kRet, s_ret0, s_ite, s_brS1, s_brS0, s_pass, s_rais, s_try, s_kTry, s_hNil, s_brH1, s_brH0, s_kH, s_for, s_bOne, b_nil, b_cons, b_kSeqN, b_kSeqR, f_kFnN, f_kFnR, f_eFn, l_nil, l_cons, l_kFLN, l_kFLR, d_set0, d_setS, d_get0, d_getS, d_bt, d_bf, d_nt, d_nf, d_gi, o_add, o_sub, o_mul, o_mod, o_fdiv, o_pow, o_addS, o_mulS, o_idxT, o_sl, c_lt, c_le, c_gt, c_ge, c_eqI, c_isn, x_len, x_min3, x_max2, x_intB, x_isiV, x_for, List.map_cons, List.map_nil, List.cons_append, List.nil_append, List.replicate_succ, List.replicate_zero, Nat.reduceSub, Nat.reduceAdd, Int.reduceAbs, Nat.reduceLT, Nat.reducePow, Nat.reduceLeDiff, Int.reduceLE, Int.reduceLT, Int.le_refl, ne_eq, Int.reduceEq, not_false_eq_true, true_and, and_true, decide_true, decide_false, Int.reduceToNat, Int.toNat_zero, Int.toNat_one, List.getElem?_cons_succ, List.getElem?_cons_zero, if_true, if_false, Bool.false_eq_true, isInt]
      have e : (if k = t then k + 1 else t) = (if k + 1 > t then k + 1 else t) := by split <;> split <;> omega
      rw [e] at e1
      refine tail _ _ x9 _ _ _ _ _ _ _ σ' e1 (by rw [e2 o ne]; exact h2) ?_ h4
      split <;> omega
    · have no : ∀ QQ EE', QQ refused σ → wpF prg (d + 4) 9 [.obj a, .int k] σ QQ EE' := fun QQ EE' hq => said_no h1 rfl (among_no hk) hq
      by_cases k1 : b ≤ k
      · by_cases k2 : k ≤ t
        · by_cases k3 : k < b + w
          · have k4 : ¬ k < m := fun q => hk ⟨k1, k2, k3, q⟩
            simp -implicitDefEqProofs only [k1, k2, k3, k4, e_kCh2n, e_lookV, e_var, e_c, e_nil, e_cons, e_kEs1, e_kEs2, e_tup, e_kTup, e_lst, e_kLst, e_o2, e_kO1, e_kO2, e_o1, e_kU, e_oN, e_kN, e_neg, e_not, e_bl, e_kBool, e_blNil, e_blCons, e_onT, e_kBl, e_brBl1, e_brBl0, e_brBlN, e_brBlM, e_cmp, e_kCmp, e_cNil, e_cCons, e_kCh1, e_kCh2n, e_kCh20, e_kCh21, e_call, e_kCall, e_new, e_kNew, e_kInit, e_meth, e_kMeth2, s_assign, s_kAsg, s_kE, s_setAttr, s_kSA1, s_expr, s_kExp, s_ret, s_kRet, s_ret0, s_ite, s_brS1, s_brS0, s_pass, s_rais, s_try, s_kTry, s_hNil, s_brH1, s_brH0, s_kH, s_for, s_bOne, b_nil, b_cons, b_kSeqN, b_kSeqR, f_kFnN, f_kFnR, f_eFn, l_nil, l_cons, l_kFLN, l_kFLR, d_set0, d_setS, d_get0, d_getS, d_bt, d_bf, d_nt, d_nf, d_gi, o_add, o_sub, o_mul, o_mod, o_fdiv, o_pow, o_addS, o_mulS, o_idxT, o_sl, c_lt, c_le, c_gt, c_ge, c_eqI, c_isn, x_len, x_min3, x_max2, x_intB, x_isiV, x_for, List.map_cons, List.map_nil, List.cons_append, List.nil_append, List.replicate_succ, List.replicate_zero, Nat.reduceSub, Nat.reduceAdd, Int.reduceAbs, Nat.reduceLT, Nat.reducePow, Nat.reduceLeDiff, Int.reduceLE, Int.reduceLT, Int.le_refl, ne_eq, Int.reduceEq, not_false_eq_true, true_and, and_true, decide_true, decide_false, Int.reduceToNat, Int.toNat_zero, Int.toNat_one, List.getElem?_cons_succ, List.getElem?_cons_zero, if_true, if_false, Bool.false_eq_true]
            refine no _ _ ?_
            simp -implicitDefEqProofs only [e_lookV, e_var, e_c, e_nil, e_cons, e_kEs1, e_kEs2, e_tup, e_kTup, e_lst, e_kLst, e_o2, e_kO1, e_kO2, e_o1, e_kU, e_oN, e_kN, e_neg, e_not, e_bl, e_kBool, e_blNil, e_blCons, e_onT, e_kBl, e_brBl1, e_brBl0, e_brBlN, e_brBlM, e_cmp, e_kCmp, e_cNil, e_cCons, e_kCh1, e_kCh2n, e_kCh20, e_kCh21, e_call, e_kCall, e_new, e_kNew, e_kInit, e_meth, e_kMeth2, s_assign, s_kAsg, s_kE, s_setAttr, s_kSA1, s_expr, s_kExp, s_ret, s_kRet, s_ret0, s_ite, s_brS1, s_brS0, s_pass, s_rais, s_try, s_kTry, s_hNil, s_brH1, s_brH0, s_kH, s_for, s_bOne, b_nil, b_cons, b_kSeqN, b_kSeqR, f_kFnN, f_kFnR, f_eFn, l_nil, l_cons, l_kFLN, l_kFLR, d_set0, d_setS, d_get0, d_getS, d_bt, d_bf, d_nt, d_nf, d_gi, o_add, o_sub, o_mul, o_mod, o_fdiv, o_pow, o_addS, o_mulS, o_idxT, o_sl, c_lt, c_le, c_gt, c_ge, c_eqI, c_isn, x_len, x_min3, x_max2, x_intB, x_isiV, x_for, List.map_cons, List.map_nil, List.cons_append, List.nil_append, List.replicate_succ, List.replicate_zero, Nat.reduceSub, Nat.reduceAdd, Int.reduceAbs, Nat.reduceLT, Nat.reducePow, Nat.reduceLeDiff, Int.reduceLE, Int.reduceLT, Int.le_refl, ne_eq, Int.reduceEq, not_false_eq_true, true_and, and_true, decide_true, decide_false, Int.reduceToNat, Int.toNat_zero, Int.toNat_one, List.getElem?_cons_succ, List.getElem?_cons_zero, if_true, if_false, Bool.false_eq_true, ne_ss, beq_self_eq_true, Bool.and_self]
            exact tail _ _ x9 _ _ _ _ _ _ _ σ h1 h2 h3 h4
          · simp -implicitDefEqProofs only [k1, k2, k3, e_kCh2n, e_lookV, e_var, e_c, e_nil, e_cons, e_kEs1, e_kEs2, e_tup, e_kTup, e_lst, e_kLst, e_o2, e_kO1, e_kO2, e_o1, e_kU, e_oN, e_kN, e_neg, e_not, e_bl, e_kBool, e_blNil, e_blCons, e_onT, e_kBl, e_brBl1, e_brBl0, e_brBlN, e_brBlM, e_cmp, e_kCmp, e_cNil, e_cCons, e_kCh1, e_kCh2n, e_kCh20, e_kCh21, e_call, e_kCall, e_new, e_kNew, e_kInit, e_meth, e_kMeth2, s_assign, s_kAsg, s_kE, s_setAttr, s_kSA1, s_expr, s_kExp, s_ret, s_kRet, s_ret0, s_ite, s_brS1, s_brS0, s_pass, s_rais, s_try, s_kTry, s_hNil, s_brH1, s_brH0, s_kH, s_for, s_bOne, b_nil, b_cons, b_kSeqN, b_kSeqR, f_kFnN, f_kFnR, f_eFn, l_nil, l_cons, l_kFLN, l_kFLR, d_set0, d_setS, d_get0, d_getS, d_bt, d_bf, d_nt, d_nf, d_gi, o_add, o_sub, o_mul, o_mod, o_fdiv, o_pow, o_addS, o_mulS, o_idxT, o_sl, c_lt, c_le, c_gt, c_ge, c_eqI, c_isn, x_len, x_min3, x_max2, x_intB, x_isiV, x_for, List.map_cons, List.map_nil, List.cons_append, List.nil_append, List.replicate_succ, List.replicate_zero, Nat.reduceSub, Nat.reduceAdd, Int.reduceAbs, Nat.reduceLT, Nat.reducePow, Nat.reduceLeDiff, Int.reduceLE, Int.reduceLT, Int.le_refl, ne_eq, Int.reduceEq, not_false_eq_true, true_and, and_true, decide_true, decide_false, Int.reduceToNat, Int.toNat_zero, Int.toNat_one, List.getElem?_cons_succ, List.getElem?_cons_zero, if_true, if_false, Bool.false_eq_true]
            refine no _ _ ?_
            simp -implicitDefEqProofs only [e_lookV, e_var, e_c, e_nil, e_cons, e_kEs1, e_kEs2, e_tup, e_kTup, e_lst, e_kLst, e_o2, e_kO1, e_kO2, e_o1, e_kU, e_oN, e_kN, e_neg, e_not, e_bl, e_kBool, e_blNil, e_blCons, e_onT, e_kBl, e_brBl1, e_brBl0, e_brBlN, e_brBlM, e_cmp, e_kCmp, e_cNil, e_cCons, e_kCh1, e_kCh2n, e_kCh20, e_kCh21, e_call, e_kCall, e_new, e_kNew, e_kInit, e_meth, e_kMeth2, s_assign, s_kAsg, s_kE, s_setAttr, s_kSA1, s_expr, s_kExp, s_ret, s_kRet, s_ret0, s_ite, s_brS1, s_brS0, s_pass, s_rais, s_try, s_kTry, s_hNil, s_brH1, s_brH0, s_kH, s_for, s_bOne, b_nil, b_cons, b_kSeqN, b_kSeqR, f_kFnN, f_kFnR, f_eFn, l_nil, l_cons, l_kFLN, l_kFLR, d_set0, d_setS, d_get0, d_getS, d_bt, d_bf, d_nt, d_nf, d_gi, o_add, o_sub, o_mul, o_mod, o_fdiv, o_pow, o_addS, o_mulS, o_idxT, o_sl, c_lt, c_le, c_gt, c_ge, c_eqI, c_isn, x_len, x_min3, x_max2, x_intB, x_isiV, x_for, List.map_cons, List.map_nil, List.cons_append, List.nil_append, List.replicate_succ, List.replicate_zero, Nat.reduceSub, Nat.reduceAdd, Int.reduceAbs, Nat.reduceLT, Nat.reducePow, Nat.reduceLeDiff, Int.reduceLE, Int.reduceLT, Int.le_refl, ne_eq, Int.reduceEq, not_false_eq_true, true_and, and_true, decide_true, decide_false, Int.reduceToNat, Int.toNat_zero, Int.toNat_one, List.getElem?_cons_succ, List.getElem?_cons_zero, if_true, if_false, Bool.false_eq_true, ne_ss, beq_self_eq_true, Bool.and_self]
            exact tail _ _ x9 _ _ _ _ _ _ _ σ h1 h2 h3 h4
        · simp -implicitDefEqProofs only [k1, k2, e_kCh2n, e_lookV, e_var, e_c, e_nil, e_cons, e_kEs1, e_kEs2, e_tup, e_kTup, e_lst, e_kLst, e_o2, e_kO1, e_kO2, e_o1, e_kU, e_oN, e_kN, e_neg, e_not, e_bl, e_kBool, e_blNil, e_blCons, e_onT, e_kBl, e_brBl1, e_brBl0, e_brBlN, e_brBlM, e_cmp, e_kCmp, e_cNil, e_cCons, e_kCh1, e_kCh2n, e_kCh20, e_kCh21, e_call, e_kCall, e_new, e_kNew, e_kInit, e_meth, e_kMeth2, s_assign, s_kAsg, s_kE, s_setAttr, s_kSA1, s_expr, s_kExp, s_ret, s_kRet, s_ret0, s_ite, s_brS1, s_brS0, s_pass, s_rais, s_try, s_kTry, s_hNil, s_brH1, s_brH0, s_kH, s_for, s_bOne, b_nil, b_cons, b_kSeqN, b_kSeqR, f_kFnN, f_kFnR, f_eFn, l_nil, l_cons, l_kFLN, l_kFLR, d_set0, d_setS, d_get0, d_getS, d_bt, d_bf, d_nt, d_nf, d_gi, o_add, o_sub, o_mul, o_mod, o_fdiv, o_pow, o_addS, o_mulS, o_idxT, o_sl, c_lt, c_le, c_gt, c_ge, c_eqI, c_isn, x_len, x_min3, x_max2, x_intB, x_isiV, x_for, List.map_cons, List.map_nil, List.cons_append, List.nil_append, List.replicate_succ, List.replicate_zero, Nat.reduceSub, Nat.reduceAdd, Int.reduceAbs, Nat.reduceLT, Nat.reducePow, Nat.reduceLeDiff, Int.reduceLE, Int.reduceLT, Int.le_refl, ne_eq, Int.reduceEq, not_false_eq_true, true_and, and_true, decide_true, decide_false, Int.reduceToNat, Int.toNat_zero, Int.toNat_one, List.getElem?_cons_succ, List.getElem?_cons_zero, if_true, if_false, Bool.false_eq_true]
          refine no _ _ ?_
          simp -implicitDefEqProofs only [e_lookV, e_var, e_c, e_nil, e_cons, e_kEs1, e_kEs2, e_tup, e_kTup, e_lst, e_kLst, e_o2, e_kO1, e_kO2, e_o1, e_kU, e_oN, e_kN, e_neg, e_not, e_bl, e_kBool, e_blNil, e_blCons, e_onT, e_kBl, e_brBl1, e_brBl0, e_brBlN, e_brBlM, e_cmp, e_kCmp, e_cNil, e_cCons, e_kCh1, e_kCh2n, e_kCh20, e_kCh21, e_call, e_kCall, e_new, e_kNew, e_kInit, e_meth, e_kMeth2, s_assign, s_kAsg, s_kE, s_setAttr, s_kSA1, s_expr, s_kExp, s_ret, s_kRet, s_ret0, s_ite, s_brS1, s_brS0, s_pass, s_rais, s_try, s_kTry, s_hNil, s_brH1, s_brH0, s_kH, s_for, s_bOne, b_nil, b_cons, b_kSeqN, b_kSeqR, f_kFnN, f_kFnR, f_eFn, l_nil, l_cons, l_kFLN, l_kFLR, d_set0, d_setS, d_get0, d_getS, d_bt, d_bf, d_nt, d_nf, d_gi, o_add, o_sub, o_mul, o_mod, o_fdiv, o_pow, o_addS, o_mulS, o_idxT, o_sl, c_lt, c_le, c_gt, c_ge, c_eqI, c_isn, x_len, x_min3, x_max2, x_intB, x_isiV, x_for, List.map_cons, List.map_nil, List.cons_append, List.nil_append, List.replicate_succ, List.replicate_zero, Nat.reduceSub, Nat.reduceAdd, Int.reduceAbs, Nat.reduceLT, Nat.reducePow, Nat.reduceLeDiff, Int.reduceLE, Int.reduceLT, Int.le_refl, ne_eq, Int.reduceEq, not_false_eq_true, true_and, and_true, decide_true, decide_false, Int.reduceToNat, Int.toNat_zero, Int.toNat_one, List.getElem?_cons_succ, List.getElem?_cons_zero, if_true, if_false, Bool.false_eq_true, ne_ss, beq_self_eq_true, Bool.and_self]
          exact tail _ _ x9 _ _ _ _ _ _ _ σ h1 h2 h3 h4
      · simp -implicitDefEqProofs only [k1, e_lookV, e_var, e_c, e_nil, e_cons, e_kEs1, e_kEs2, e_tup, e_kTup, e_lst, e_kLst, e_o2, e_kO1, e_kO2, e_o1, e_kU, e_oN, e_kN, e_neg, e_not, e_bl, e_kBool, e_blNil, e_blCons, e_onT, e_kBl, e_brBl1, e_brBl0, e_brBlN, e_brBlM, e_cmp, e_kCmp, e_cNil, e_cCons, e_kCh1, e_kCh2n, e_kCh20, e_kCh21, e_call, e_kCall, e_new, e_kNew, e_kInit, e_meth, e_kMeth2, s_assign, s_kAsg, s_kE, s_setAttr, s_kSA1, s_expr, s_kExp, s_ret, s_kRet, s_ret0, s_ite, s_brS1, s_brS0, s_pass, s_rais, s_try, s_kTry, s_hNil, s_brH1, s_brH0, s_kH, s_for, s_bOne, b_nil, b_cons, b_kSeqN, b_kSeqR, f_kFnN, f_kFnR, f_eFn, l_nil, l_cons, l_kFLN, l_kFLR, d_set0, d_setS, d_get0, d_getS, d_bt, d_bf, d_nt, d_nf, d_gi, o_add, o_sub, o_mul, o_mod, o_fdiv, o_pow, o_addS, o_mulS, o_idxT, o_sl, c_lt, c_le, c_gt, c_ge, c_eqI, c_isn, x_len, x_min3, x_max2, x_intB, x_isiV, x_for, List.map_cons, List.map_nil, List.cons_append, List.nil_append, List.replicate_succ, List.replicate_zero, Nat.reduceSub, Nat.reduceAdd, Int.reduceAbs, Nat.reduceLT, Nat.reducePow, Nat.reduceLeDiff, Int.reduceLE, Int.reduceLT, Int.le_refl, ne_eq, Int.reduceEq, not_false_eq_true, true_and, and_true, decide_true, decide_false, Int.reduceToNat, Int.toNat_zero, Int.toNat_one, List.getElem?_cons_succ, List.getElem?_cons_zero, if_true, if_false, Bool.false_eq_true]
        refine no _ _ ?_
        simp -implicitDefEqProofs only [e_lookV, e_var, e_c, e_nil, e_cons, e_kEs1, e_kEs2, e_tup, e_kTup, e_lst, e_kLst, e_o2, e_kO1, e_kO2, e_o1, e_kU, e_oN, e_kN, e_neg, e_not, e_bl, e_kBool, e_blNil, e_blCons, e_onT, e_kBl, e_brBl1, e_brBl0, e_brBlN, e_brBlM, e_cmp, e_kCmp, e_cNil, e_cCons, e_kCh1, e_kCh2n, e_kCh20, e_kCh21, e_call, e_kCall, e_new, e_kNew, e_kInit, e_meth, e_kMeth2, s_assign, s_kAsg, s_kE, s_setAttr, s_kSA1, s_expr, s_kExp, s_ret, s_kRet, s_ret0, s_ite, s_brS1, s_brS0, s_pass, s_rais, s_try, s_kTry, s_hNil, s_brH1, s_brH0, s_kH, s_for, s_bOne, b_nil, b_cons, b_kSeqN, b_kSeqR, f_kFnN, f_kFnR, f_eFn, l_nil, l_cons, l_kFLN, l_kFLR, d_set0, d_setS, d_get0, d_getS, d_bt, d_bf, d_nt, d_nf, d_gi, o_add, o_sub, o_mul, o_mod, o_fdiv, o_pow, o_addS, o_mulS, o_idxT, o_sl, c_lt, c_le, c_gt, c_ge, c_eqI, c_isn, x_len, x_min3, x_max2, x_intB, x_isiV, x_for, List.map_cons, List.map_nil, List.cons_append, List.nil_append, List.replicate_succ, List.replicate_zero, Nat.reduceSub, Nat.reduceAdd, Int.reduceAbs, Nat.reduceLT, Nat.reducePow, Nat.reduceLeDiff, Int.reduceLE, Int.reduceLT, Int.le_refl, ne_eq, Int.reduceEq, not_false_eq_true, true_and, and_true, decide_true, decide_false, Int.reduceToNat, Int.toNat_zero, Int.toNat_one, List.getElem?_cons_succ, List.getElem?_cons_zero, if_true, if_false, Bool.false_eq_true, ne_ss, beq_self_eq_true, Bool.and_self]
        exact tail _ _ x9 _ _ _ _ _ _ _ σ h1 h2 h3 h4
  · have tn : t - b + 1 ≠ 0 := by omega
    simp -implicitDefEqProofs only [h5, rn, tn, e_lookV, e_var, e_c, e_nil, e_cons, e_kEs1, e_kEs2, e_tup, e_kTup, e_lst, e_kLst, e_o2, e_kO1, e_kO2, e_o1, e_kU, e_oN, e_kN, e_neg, e_not, e_bl, e_kBool, e_blNil, e_blCons, e_onT, e_kBl, e_brBl1, e_brBl0, e_brBlN, e_brBlM, e_cmp, e_kCmp, e_cNil, e_cCons, e_kCh1, e_kCh2n, e_kCh20, e_kCh21, e_call, e_kCall, e_new, e_kNew, e_kInit, e_meth, e_kMeth2, s_assign, s_kAsg, s_kE, s_setAttr, s_kSA1, s_expr, s_kExp, s_ret, s_kRet, s_ret0, s_ite, s_brS1, s_brS0, s_pass, s_rais, s_try, s_kTry, s_hNil, s_brH1, s_brH0, s_kH, s_for, s_bOne, b_nil, b_cons, b_kSeqN, b_kSeqR, f_kFnN, f_kFnR, f_eFn, l_nil, l_cons, l_kFLN, l_kFLR, d_set0, d_setS, d_get0, d_getS, d_bt, d_bf, d_nt, d_nf, d_gi, o_add, o_sub, o_mul, o_mod, o_fdiv, o_pow, o_addS, o_mulS, o_idxT, o_sl, c_lt, c_le, c_gt, c_ge, c_eqI, c_isn, x_len, x_min3, x_max2, x_intB, x_isiV, x_for, List.map_cons, List.map_nil, List.cons_append, List.nil_append, List.replicate_succ, List.replicate_zero, Nat.reduceSub, Nat.reduceAdd, Int.reduceAbs, Nat.reduceLT, Nat.reducePow, Nat.reduceLeDiff, Int.reduceLE, Int.reduceLT, Int.le_refl, ne_eq, Int.reduceEq, not_false_eq_true, true_and, and_true, decide_true, decide_false, Int.reduceToNat, Int.toNat_zero, Int.toNat_one, List.getElem?_cons_succ, List.getElem?_cons_zero, if_true, if_false, Bool.false_eq_true]
    refine idx_all (fmod_nn (by decide)) (fmod_lt (by decide)) fun v hv => ?_
    obtain ⟨n, rfl⟩ : ∃ n : Int, v = .int n := by
      simp only [List.mem_cons, List.not_mem_nil, or_false] at hv
      rcases hv with rfl | rfl <;> exact ⟨_, rfl⟩
    simp -implicitDefEqProofs only [e_lookV, e_var, e_c, e_nil, e_cons, e_kEs1, e_kEs2, e_tup, e_kTup, e_lst, e_kLst, e_o2, e_kO1, e_kO2, e_o1, e_kU, e_oN, e_kN, e_neg, e_not, e_bl, e_kBool, e_blNil, e_blCons, e_onT, e_kBl, e_brBl1, e_brBl0, e_brBlN, e_brBlM, e_cmp, e_kCmp, e_cNil, e_cCons, e_kCh1, e_kCh2n, e_kCh20, e_kCh21, e_call, e_kCall, e_new, e_kNew, e_kInit, e_meth, e_kMeth2, s_assign, s_kAsg, s_kE, s_setAttr, s_kSA1, s_expr, s_kExp, s_ret, s_kRet, s_ret0, s_ite, s_brS1, s_brS0, s_pass, s_rais, s_try, s_kTry, s_hNil, s_brH1, s_brH0, s_kH, s_for, s_bOne, b_nil, b_cons, b_kSeqN, b_kSeqR, f_kFnN, f_kFnR, f_eFn, l_nil, l_cons, l_kFLN, l_kFLR, d_set0, d_setS, d_get0, d_getS, d_bt, d_bf, d_nt, d_nf, d_gi, o_add, o_sub, o_mul, o_mod, o_fdiv, o_pow, o_addS, o_mulS, o_idxT, o_sl, c_lt, c_le, c_gt, c_ge, c_eqI, c_isn, x_len, x_min3, x_max2, x_intB, x_isiV, x_for, List.map_cons, List.map_nil, List.cons_append, List.nil_append, List.replicate_succ, List.replicate_zero, Nat.reduceSub, Nat.reduceAdd, Int.reduceAbs, Nat.reduceLT, Nat.reducePow, Nat.reduceLeDiff, Int.reduceLE, Int.reduceLT, Int.le_refl, ne_eq, Int.reduceEq, not_false_eq_true, true_and, and_true, decide_true, decide_false, Int.reduceToNat, Int.toNat_zero, Int.toNat_one, List.getElem?_cons_succ, List.getElem?_cons_zero, if_true, if_false, Bool.false_eq_true, rn, x_meth (m := 7) h1 rfl]
    refine heard_wp h1 rn fun σ' e1 e2 => ?_
    simp -implicitDefEqProofs only [e_lookV, e_var, e_c, e_nil, e_cons, e_kEs1, e_kEs2, e_tup, e_kTup, e_lst, e_kLst, e_o2, e_kO1, e_kO2, e_o1, e_kU, e_oN, e_kN, e_neg, e_not, e_bl, e_kBool, e_blNil, e_blCons, e_onT, e_kBl, e_brBl1, e_brBl0, e_brBlN, e_brBlM, e_cmp, e_kCmp, e_cNil, e_cCons, e_kCh1, e_kCh2n, e_kCh20, e_kCh21, e_call, e_kCall, e_new, e_kNew, e_kInit, e_meth, e_kMeth2, s_assign, s_kAsg, s_kE, s_setAttr, s_kSA1, s_expr, s_kExp, s_ret, s_kRet, s_ret0, s_ite, s_brS1, s_brS0, s_pass, s_rais, s_try, s_kTry, s_hNil, s_brH1, s_brH0, s_kH, s_for, s_bOne, b_nil, b_cons, b_kSeqN, b_kSeqR, f_kFnN, f_kFnR, f_eFn, l_nil, l_cons, l_kFLN, l_kFLR, d_set0, d_setS, d_get0, d_getS, d_bt, d_bf, d_nt, d_nf, d_gi, o_add, o_sub, o_mul, o_mod, o_fdiv, o_pow, o_addS, o_mulS, o_idxT, o_sl, c_lt, c_le, c_gt, c_ge, c_eqI, c_isn, x_len, x_min3, x_max2, x_intB, x_isiV, x_for, List.map_cons, List.map_nil, List.cons_append, List.nil_append, List.replicate_succ, List.replicate_zero, Nat.reduceSub, Nat.reduceAdd, Int.reduceAbs, Nat.reduceLT, Nat.reducePow, Nat.reduceLeDiff, Int.reduceLE, Int.reduceLT, Int.le_refl, ne_eq, Int.reduceEq, not_false_eq_true, true_and, and_true, decide_true, decide_false, Int.reduceToNat, Int.toNat_zero, Int.toNat_one, List.getElem?_cons_succ, List.getElem?_cons_zero, if_true, if_false, Bool.false_eq_true]
    have e3 : σ' o = some (S w r m 0 0) := by rw [e2 o ne]; exact h2
    have e4 := fmod_nn (a := n - b) (b := r) (by omega)
    by_cases h6 : b + (n - b).fmod r ≤ t
    · simp -implicitDefEqProofs only [h6, e_lookV, e_var, e_c, e_nil, e_cons, e_kEs1, e_kEs2, e_tup, e_kTup, e_lst, e_kLst, e_o2, e_kO1, e_kO2, e_o1, e_kU, e_oN, e_kN, e_neg, e_not, e_bl, e_kBool, e_blNil, e_blCons, e_onT, e_kBl, e_brBl1, e_brBl0, e_brBlN, e_brBlM, e_cmp, e_kCmp, e_cNil, e_cCons, e_kCh1, e_kCh2n, e_kCh20, e_kCh21, e_call, e_kCall, e_new, e_kNew, e_kInit, e_meth, e_kMeth2, s_assign, s_kAsg, s_kE, s_setAttr, s_kSA1, s_expr, s_kExp, s_ret, s_kRet, s_ret0, s_ite, s_brS1, s_brS0, s_pass, s_rais, s_try, s_kTry, s_hNil, s_brH1, s_brH0, s_kH, s_for, s_bOne, b_nil, b_cons, b_kSeqN, b_kSeqR, f_kFnN, f_kFnR, f_eFn, l_nil, l_cons, l_kFLN, l_kFLR, d_set0, d_setS, d_get0, d_getS, d_bt, d_bf, d_nt, d_nf, d_gi, o_add, o_sub, o_mul, o_mod, o_fdiv, o_pow, o_addS, o_mulS, o_idxT, o_sl, c_lt, c_le, c_gt, c_ge, c_eqI, c_isn, x_len, x_min3, x_max2, x_intB, x_isiV, x_for, List.map_cons, List.map_nil, List.cons_append, List.nil_append, List.replicate_succ, List.replicate_zero, Nat.reduceSub, Nat.reduceAdd, Int.reduceAbs, Nat.reduceLT, Nat.reducePow, Nat.reduceLeDiff, Int.reduceLE, Int.reduceLT, Int.le_refl, ne_eq, Int.reduceEq, not_false_eq_true, true_and, and_true, decide_true, decide_false, Int.reduceToNat, Int.toNat_zero, Int.toNat_one, List.getElem?_cons_succ, List.getElem?_cons_zero, if_true, if_false, Bool.false_eq_true] at e1 ⊢
      exact tail _ _ x9 _ _ _ _ _ _ _ σ' e1 e3 h6 (by omega)
    · simp -implicitDefEqProofs only [h6, e_lookV, e_var, e_c, e_nil, e_cons, e_kEs1, e_kEs2, e_tup, e_kTup, e_lst, e_kLst, e_o2, e_kO1, e_kO2, e_o1, e_kU, e_oN, e_kN, e_neg, e_not, e_bl, e_kBool, e_blNil, e_blCons, e_onT, e_kBl, e_brBl1, e_brBl0, e_brBlN, e_brBlM, e_cmp, e_kCmp, e_cNil, e_cCons, e_kCh1, e_kCh2n, e_kCh20, e_kCh21, e_call, e_kCall, e_new, e_kNew, e_kInit, e_meth, e_kMeth2, s_assign, s_kAsg, s_kE, s_setAttr, s_kSA1, s_expr, s_kExp, s_ret, s_kRet, s_ret0, s_ite, s_brS1, s_brS0, s_pass, s_rais, s_try, s_kTry, s_hNil, s_brH1, s_brH0, s_kH, s_for, s_bOne, b_nil, b_cons, b_kSeqN, b_kSeqR, f_kFnN, f_kFnR, f_eFn, l_nil, l_cons, l_kFLN, l_kFLR, d_set0, d_setS, d_get0, d_getS, d_bt, d_bf, d_nt, d_nf, d_gi, o_add, o_sub, o_mul, o_mod, o_fdiv, o_pow, o_addS, o_mulS, o_idxT, o_sl, c_lt, c_le, c_gt, c_ge, c_eqI, c_isn, x_len, x_min3, x_max2, x_intB, x_isiV, x_for, List.map_cons, List.map_nil, List.cons_append, List.nil_append, List.replicate_succ, List.replicate_zero, Nat.reduceSub, Nat.reduceAdd, Int.reduceAbs, Nat.reduceLT, Nat.reducePow, Nat.reduceLeDiff, Int.reduceLE, Int.reduceLT, Int.le_refl, ne_eq, Int.reduceEq, not_false_eq_true, true_and, and_true, decide_true, decide_false, Int.reduceToNat, Int.toNat_zero, Int.toNat_one, List.getElem?_cons_succ, List.getElem?_cons_zero, if_true, if_false, Bool.false_eq_true] at e1 ⊢
      exact tail _ _ x9 _ _ _ _ _ _ _ σ' e1 e3 h3 h4
end Ap.L02
end
section
set_option Elab.async false
set_option maxRecDepth 100000
set_option maxHeartbeats 4000000
set_option linter.unusedVariables false
set_option linter.unusedSimpArgs false
namespace Ap.L02
open PySem
variable {d : Nat} {σ : St} {Q : PQ} {E : PE}
theorem getD3 {ns : List Int} {x : AV} (h : x ∈ ((ns.map AV.int).take 43).drop 3) : ∃ c : Int, x = .int c := by
  obtain ⟨c, _, rfl⟩ := List.mem_map.mp (List.mem_of_mem_take (List.mem_of_mem_drop h))
  exact ⟨c, rfl⟩
theorem odd_no {w m b t : Int} (hb : 0 ≤ b) (hw : w ≤ 20) {v : AV} (hv : v ∈ [AV.none, .bool true, .str (Str.ofString "0"), .ilist [.int b], .tup [.int b], .int (-1), .bool false, .int (b + 10 ^ Int.toNat 6)]) : plainV v = true ∧ amongB v b (lastOf w m b t) = false := by
  simp only [List.mem_cons, List.not_mem_nil, or_false] at hv
  rcases hv with rfl | rfl | rfl | rfl | rfl | rfl | rfl | rfl
  all_goals first | exact ⟨rfl, rfl⟩ | skip
  · exact ⟨rfl, among_no (by omega)⟩
  · exact ⟨rfl, among_no (by
      have : (10 : Int) ^ Int.toNat 6 = 1000000 := by decide
      omega)⟩
theorem law_wp (ns : List Int) (hQ : ∀ σ, Q (.bool true) σ) : wpF prg 12 11 [.ilist (ns.map .int)] σ Q E := by
  refine wpF_in (fi := fn11) rfl rfl ?_
  simp -implicitDefEqProofs only [fn11, w11, e_lookV, e_var, e_c, e_nil, e_cons, e_kEs1, e_kEs2, e_tup, e_kTup, e_lst, e_kLst, e_o2, e_kO1, e_kO2, e_o1, e_kU, e_oN, e_kN, e_neg, e_not, e_bl, e_kBool, e_blNil, e_blCons, e_onT, e_kBl, e_brBl1, e_brBl0, e_brBlN, e_brBlM, e_cmp, e_kCmp, e_cNil, e_cCons, e_kCh1, e_kCh2n, e_kCh20, e_kCh21, e_call, e_kCall, e_new, e_kNew, e_kInit, e_meth, e_kMeth2, s_assign, s_kAsg, s_kE, s_setAttr, s_kSA1, s_expr, s_kExp, s_ret, s_kRet, s_ret0, s_ite, s_brS1, s_brS0, s_pass, s_rais, s_try, s_kTry, s_hNil, s_brH1, s_brH0, s_kH, s_for, s_bOne, b_nil, b_cons, b_kSeqN, b_kSeqR, f_kFnN, f_kFnR, f_eFn, l_nil, l_cons, l_kFLN, l_kFLR, d_set0, d_setS, d_get0, d_getS, d_bt, d_bf, d_nt, d_nf, d_gi, o_add, o_sub, o_mul, o_mod, o_fdiv, o_pow, o_addS, o_mulS, o_idxT, o_sl, c_lt, c_le, c_gt, c_ge, c_eqI, c_isn, x_len, x_min3, x_max2, x_intB, x_isiV, x_for, List.map_cons, List.map_nil, List.cons_append, List.nil_append, List.replicate_succ, List.replicate_zero, Nat.reduceSub, Nat.reduceAdd, Int.reduceAbs, Nat.reduceLT, Nat.reducePow, Nat.reduceLeDiff, Int.reduceLE, Int.reduceLT, Int.le_refl, ne_eq, Int.reduceEq, not_false_eq_true, true_and, and_true, decide_true, decide_false, Int.reduceToNat, Int.toNat_zero, Int.toNat_one, List.getElem?_cons_succ, List.getElem?_cons_zero, if_true, if_false, Bool.false_eq_true]
  refine at_wp 0 rfl ?_
  simp -implicitDefEqProofs only [e_lookV, e_var, e_c, e_nil, e_cons, e_kEs1, e_kEs2, e_tup, e_kTup, e_lst, e_kLst, e_o2, e_kO1, e_kO2, e_o1, e_kU, e_oN, e_kN, e_neg, e_not, e_bl, e_kBool, e_blNil, e_blCons, e_onT, e_kBl, e_brBl1, e_brBl0, e_brBlN, e_brBlM, e_cmp, e_kCmp, e_cNil, e_cCons, e_kCh1, e_kCh2n, e_kCh20, e_kCh21, e_call, e_kCall, e_new, e_kNew, e_kInit, e_meth, e_kMeth2, s_assign, s_kAsg, s_kE, s_setAttr, s_kSA1, s_expr, s_kExp, s_ret, s_kRet, s_ret0, s_ite, s_brS1, s_brS0, s_pass, s_rais, s_try, s_kTry, s_hNil, s_brH1, s_brH0, s_kH, s_for, s_bOne, b_nil, b_cons, b_kSeqN, b_kSeqR, f_kFnN, f_kFnR, f_eFn, l_nil, l_cons, l_kFLN, l_kFLR, d_set0, d_setS, d_get0, d_getS, d_bt, d_bf, d_nt, d_nf, d_gi, o_add, o_sub, o_mul, o_mod, o_fdiv, o_pow, o_addS, o_mulS, o_idxT, o_sl, c_lt, c_le, c_gt, c_ge, c_eqI, c_isn, x_len, x_min3, x_max2, x_intB, x_isiV, x_for, List.map_cons, List.map_nil, List.cons_append, List.nil_append, List.replicate_succ, List.replicate_zero, Nat.reduceSub, Nat.reduceAdd, Int.reduceAbs, Nat.reduceLT, Nat.reducePow, Nat.reduceLeDiff, Int.reduceLE, Int.reduceLT, Int.le_refl, ne_eq, Int.reduceEq, not_false_eq_true, true_and, and_true, decide_true, decide_false, Int.reduceToNat, Int.toNat_zero, Int.toNat_one, List.getElem?_cons_succ, List.getElem?_cons_zero, if_true, if_false, Bool.false_eq_true]
  refine mixed_wp (by decide) ?_
  generalize (ns.getD 0 0 * 48271 + 7919 * (0 + 1) * (0 + 3)).fmod 2147483647 = one
  simp -implicitDefEqProofs only [e_lookV, e_var, e_c, e_nil, e_cons, e_kEs1, e_kEs2, e_tup, e_kTup, e_lst, e_kLst, e_o2, e_kO1, e_kO2, e_o1, e_kU, e_oN, e_kN, e_neg, e_not, e_bl, e_kBool, e_blNil, e_blCons, e_onT, e_kBl, e_brBl1, e_brBl0, e_brBlN, e_brBlM, e_cmp, e_kCmp, e_cNil, e_cCons, e_kCh1, e_kCh2n, e_kCh20, e_kCh21, e_call, e_kCall, e_new, e_kNew, e_kInit, e_meth, e_kMeth2, s_assign, s_kAsg, s_kE, s_setAttr, s_kSA1, s_expr, s_kExp, s_ret, s_kRet, s_ret0, s_ite, s_brS1, s_brS0, s_pass, s_rais, s_try, s_kTry, s_hNil, s_brH1, s_brH0, s_kH, s_for, s_bOne, b_nil, b_cons, b_kSeqN, b_kSeqR, f_kFnN, f_kFnR, f_eFn, l_nil, l_cons, l_kFLN, l_kFLR, d_set0, d_setS, d_get0, d_getS, d_bt, d_bf, d_nt, d_nf, d_gi, o_add, o_sub, o_mul, o_mod, o_fdiv, o_pow, o_addS, o_mulS, o_idxT, o_sl, c_lt, c_le, c_gt, c_ge, c_eqI, c_isn, x_len, x_min3, x_max2, x_intB, x_isiV, x_for, List.map_cons, List.map_nil, List.cons_append, List.nil_append, List.replicate_succ, List.replicate_zero, Nat.reduceSub, Nat.reduceAdd, Int.reduceAbs, Nat.reduceLT, Nat.reducePow, Nat.reduceLeDiff, Int.reduceLE, Int.reduceLT, Int.le_refl, ne_eq, Int.reduceEq, not_false_eq_true, true_and, and_true, decide_true, decide_false, Int.reduceToNat, Int.toNat_zero, Int.toNat_one, List.getElem?_cons_succ, List.getElem?_cons_zero, if_true, if_false, Bool.false_eq_true]
  refine idx_all (fmod_nn (by decide)) (fmod_lt (by decide)) fun v hv => ?_
  obtain ⟨x, rfl, x0, x1⟩ : ∃ x : Int, v = .int x ∧ 1 ≤ x ∧ x ≤ 20 := by
    simp only [List.mem_cons, List.not_mem_nil, or_false] at hv
    rcases hv with rfl | rfl <;> exact ⟨_, rfl, by decide, by decide⟩
  have xn : x ≠ 0 := by omega
  simp -implicitDefEqProofs only [e_lookV, e_var, e_c, e_nil, e_cons, e_kEs1, e_kEs2, e_tup, e_kTup, e_lst, e_kLst, e_o2, e_kO1, e_kO2, e_o1, e_kU, e_oN, e_kN, e_neg, e_not, e_bl, e_kBool, e_blNil, e_blCons, e_onT, e_kBl, e_brBl1, e_brBl0, e_brBlN, e_brBlM, e_cmp, e_kCmp, e_cNil, e_cCons, e_kCh1, e_kCh2n, e_kCh20, e_kCh21, e_call, e_kCall, e_new, e_kNew, e_kInit, e_meth, e_kMeth2, s_assign, s_kAsg, s_kE, s_setAttr, s_kSA1, s_expr, s_kExp, s_ret, s_kRet, s_ret0, s_ite, s_brS1, s_brS0, s_pass, s_rais, s_try, s_kTry, s_hNil, s_brH1, s_brH0, s_kH, s_for, s_bOne, b_nil, b_cons, b_kSeqN, b_kSeqR, f_kFnN, f_kFnR, f_eFn, l_nil, l_cons, l_kFLN, l_kFLR, d_set0, d_setS, d_get0, d_getS, d_bt, d_bf, d_nt, d_nf, d_gi, o_add, o_sub, o_mul, o_mod, o_fdiv, o_pow, o_addS, o_mulS, o_idxT, o_sl, c_lt, c_le, c_gt, c_ge, c_eqI, c_isn, x_len, x_min3, x_max2, x_intB, x_isiV, x_for, List.map_cons, List.map_nil, List.cons_append, List.nil_append, List.replicate_succ, List.replicate_zero, Nat.reduceSub, Nat.reduceAdd, Int.reduceAbs, Nat.reduceLT, Nat.reducePow, Nat.reduceLeDiff, Int.reduceLE, Int.reduceLT, Int.le_refl, ne_eq, Int.reduceEq, not_false_eq_true, true_and, and_true, decide_true, decide_false, Int.reduceToNat, Int.toNat_zero, Int.toNat_one, List.getElem?_cons_succ, List.getElem?_cons_zero, if_true, if_false, Bool.false_eq_true, xn]
  have w0 := fmod_nn (a := one) (b := x) (by omega)
  have w1 := fmod_lt (a := one) (b := x) (by omega)
  generalize hw : 1 + one.fmod x = w
  refine at_wp 1 rfl ?_
  simp -implicitDefEqProofs only [e_lookV, e_var, e_c, e_nil, e_cons, e_kEs1, e_kEs2, e_tup, e_kTup, e_lst, e_kLst, e_o2, e_kO1, e_kO2, e_o1, e_kU, e_oN, e_kN, e_neg, e_not, e_bl, e_kBool, e_blNil, e_blCons, e_onT, e_kBl, e_brBl1, e_brBl0, e_brBlN, e_brBlM, e_cmp, e_kCmp, e_cNil, e_cCons, e_kCh1, e_kCh2n, e_kCh20, e_kCh21, e_call, e_kCall, e_new, e_kNew, e_kInit, e_meth, e_kMeth2, s_assign, s_kAsg, s_kE, s_setAttr, s_kSA1, s_expr, s_kExp, s_ret, s_kRet, s_ret0, s_ite, s_brS1, s_brS0, s_pass, s_rais, s_try, s_kTry, s_hNil, s_brH1, s_brH0, s_kH, s_for, s_bOne, b_nil, b_cons, b_kSeqN, b_kSeqR, f_kFnN, f_kFnR, f_eFn, l_nil, l_cons, l_kFLN, l_kFLR, d_set0, d_setS, d_get0, d_getS, d_bt, d_bf, d_nt, d_nf, d_gi, o_add, o_sub, o_mul, o_mod, o_fdiv, o_pow, o_addS, o_mulS, o_idxT, o_sl, c_lt, c_le, c_gt, c_ge, c_eqI, c_isn, x_len, x_min3, x_max2, x_intB, x_isiV, x_for, List.map_cons, List.map_nil, List.cons_append, List.nil_append, List.replicate_succ, List.replicate_zero, Nat.reduceSub, Nat.reduceAdd, Int.reduceAbs, Nat.reduceLT, Nat.reducePow, Nat.reduceLeDiff, Int.reduceLE, Int.reduceLT, Int.le_refl, ne_eq, Int.reduceEq, not_false_eq_true, true_and, and_true, decide_true, decide_false, Int.reduceToNat, Int.toNat_zero, Int.toNat_one, List.getElem?_cons_succ, List.getElem?_cons_zero, if_true, if_false, Bool.false_eq_true]
  refine mixed_wp (by decide) ?_
  generalize (ns.getD 1 0 * 48271 + 7919 * (1 + 1) * (1 + 3)).fmod 2147483647 = two
  simp -implicitDefEqProofs only [e_lookV, e_var, e_c, e_nil, e_cons, e_kEs1, e_kEs2, e_tup, e_kTup, e_lst, e_kLst, e_o2, e_kO1, e_kO2, e_o1, e_kU, e_oN, e_kN, e_neg, e_not, e_bl, e_kBool, e_blNil, e_blCons, e_onT, e_kBl, e_brBl1, e_brBl0, e_brBlN, e_brBlM, e_cmp, e_kCmp, e_cNil, e_cCons, e_kCh1, e_kCh2n, e_kCh20, e_kCh21, e_call, e_kCall, e_new, e_kNew, e_kInit, e_meth, e_kMeth2, s_assign, s_kAsg, s_kE, s_setAttr, s_kSA1, s_expr, s_kExp, s_ret, s_kRet, s_ret0, s_ite, s_brS1, s_brS0, s_pass, s_rais, s_try, s_kTry, s_hNil, s_brH1, s_brH0, s_kH, s_for, s_bOne, b_nil, b_cons, b_kSeqN, b_kSeqR, f_kFnN, f_kFnR, f_eFn, l_nil, l_cons, l_kFLN, l_kFLR, d_set0, d_setS, d_get0, d_getS, d_bt, d_bf, d_nt, d_nf, d_gi, o_add, o_sub, o_mul, o_mod, o_fdiv, o_pow, o_addS, o_mulS, o_idxT, o_sl, c_lt, c_le, c_gt, c_ge, c_eqI, c_isn, x_len, x_min3, x_max2, x_intB, x_isiV, x_for, List.map_cons, List.map_nil, List.cons_append, List.nil_append, List.replicate_succ, List.replicate_zero, Nat.reduceSub, Nat.reduceAdd, Int.reduceAbs, Nat.reduceLT, Nat.reducePow, Nat.reduceLeDiff, Int.reduceLE, Int.reduceLT, Int.le_refl, ne_eq, Int.reduceEq, not_false_eq_true, true_and, and_true, decide_true, decide_false, Int.reduceToNat, Int.toNat_zero, Int.toNat_one, List.getElem?_cons_succ, List.getElem?_cons_zero, if_true, if_false, Bool.false_eq_true]
  refine idx_all (fmod_nn (by decide)) (fmod_lt (by decide)) fun v hv => ?_
  obtain ⟨y, rfl, y0⟩ : ∃ y : Int, v = .int y ∧ 1 ≤ y := by
    simp only [List.mem_cons, List.not_mem_nil, or_false] at hv
    rcases hv with rfl | rfl
    · exact ⟨_, rfl, by omega⟩
    · exact ⟨_, rfl, by decide⟩
  have yn : y ≠ 0 := by omega
  simp -implicitDefEqProofs only [e_lookV, e_var, e_c, e_nil, e_cons, e_kEs1, e_kEs2, e_tup, e_kTup, e_lst, e_kLst, e_o2, e_kO1, e_kO2, e_o1, e_kU, e_oN, e_kN, e_neg, e_not, e_bl, e_kBool, e_blNil, e_blCons, e_onT, e_kBl, e_brBl1, e_brBl0, e_brBlN, e_brBlM, e_cmp, e_kCmp, e_cNil, e_cCons, e_kCh1, e_kCh2n, e_kCh20, e_kCh21, e_call, e_kCall, e_new, e_kNew, e_kInit, e_meth, e_kMeth2, s_assign, s_kAsg, s_kE, s_setAttr, s_kSA1, s_expr, s_kExp, s_ret, s_kRet, s_ret0, s_ite, s_brS1, s_brS0, s_pass, s_rais, s_try, s_kTry, s_hNil, s_brH1, s_brH0, s_kH, s_for, s_bOne, b_nil, b_cons, b_kSeqN, b_kSeqR, f_kFnN, f_kFnR, f_eFn, l_nil, l_cons, l_kFLN, l_kFLR, d_set0, d_setS, d_get0, d_getS, d_bt, d_bf, d_nt, d_nf, d_gi, o_add, o_sub, o_mul, o_mod, o_fdiv, o_pow, o_addS, o_mulS, o_idxT, o_sl, c_lt, c_le, c_gt, c_ge, c_eqI, c_isn, x_len, x_min3, x_max2, x_intB, x_isiV, x_for, List.map_cons, List.map_nil, List.cons_append, List.nil_append, List.replicate_succ, List.replicate_zero, Nat.reduceSub, Nat.reduceAdd, Int.reduceAbs, Nat.reduceLT, Nat.reducePow, Nat.reduceLeDiff, Int.reduceLE, Int.reduceLT, Int.le_refl, ne_eq, Int.reduceEq, not_false_eq_true, true_and, and_true, decide_true, decide_false, Int.reduceToNat, Int.toNat_zero, Int.toNat_one, List.getElem?_cons_succ, List.getElem?_cons_zero, if_true, if_false, Bool.false_eq_true, yn]
  have r0 := fmod_nn (a := two) (b := y) (by omega)
  generalize hr : 1 + two.fmod y = r
  refine at_wp 2 rfl ?_
  simp -implicitDefEqProofs only [e_lookV, e_var, e_c, e_nil, e_cons, e_kEs1, e_kEs2, e_tup, e_kTup, e_lst, e_kLst, e_o2, e_kO1, e_kO2, e_o1, e_kU, e_oN, e_kN, e_neg, e_not, e_bl, e_kBool, e_blNil, e_blCons, e_onT, e_kBl, e_brBl1, e_brBl0, e_brBlN, e_brBlM, e_cmp, e_kCmp, e_cNil, e_cCons, e_kCh1, e_kCh2n, e_kCh20, e_kCh21, e_call, e_kCall, e_new, e_kNew, e_kInit, e_meth, e_kMeth2, s_assign, s_kAsg, s_kE, s_setAttr, s_kSA1, s_expr, s_kExp, s_ret, s_kRet, s_ret0, s_ite, s_brS1, s_brS0, s_pass, s_rais, s_try, s_kTry, s_hNil, s_brH1, s_brH0, s_kH, s_for, s_bOne, b_nil, b_cons, b_kSeqN, b_kSeqR, f_kFnN, f_kFnR, f_eFn, l_nil, l_cons, l_kFLN, l_kFLR, d_set0, d_setS, d_get0, d_getS, d_bt, d_bf, d_nt, d_nf, d_gi, o_add, o_sub, o_mul, o_mod, o_fdiv, o_pow, o_addS, o_mulS, o_idxT, o_sl, c_lt, c_le, c_gt, c_ge, c_eqI, c_isn, x_len, x_min3, x_max2, x_intB, x_isiV, x_for, List.map_cons, List.map_nil, List.cons_append, List.nil_append, List.replicate_succ, List.replicate_zero, Nat.reduceSub, Nat.reduceAdd, Int.reduceAbs, Nat.reduceLT, Nat.reducePow, Nat.reduceLeDiff, Int.reduceLE, Int.reduceLT, Int.le_refl, ne_eq, Int.reduceEq, not_false_eq_true, true_and, and_true, decide_true, decide_false, Int.reduceToNat, Int.toNat_zero, Int.toNat_one, List.getElem?_cons_succ, List.getElem?_cons_zero, if_true, if_false, Bool.false_eq_true]
  refine mixed_wp (by decide) ?_
  generalize (ns.getD 2 0 * 48271 + 7919 * (2 + 1) * (2 + 3)).fmod 2147483647 = three
  simp -implicitDefEqProofs only [e_lookV, e_var, e_c, e_nil, e_cons, e_kEs1, e_kEs2, e_tup, e_kTup, e_lst, e_kLst, e_o2, e_kO1, e_kO2, e_o1, e_kU, e_oN, e_kN, e_neg, e_not, e_bl, e_kBool, e_blNil, e_blCons, e_onT, e_kBl, e_brBl1, e_brBl0, e_brBlN, e_brBlM, e_cmp, e_kCmp, e_cNil, e_cCons, e_kCh1, e_kCh2n, e_kCh20, e_kCh21, e_call, e_kCall, e_new, e_kNew, e_kInit, e_meth, e_kMeth2, s_assign, s_kAsg, s_kE, s_setAttr, s_kSA1, s_expr, s_kExp, s_ret, s_kRet, s_ret0, s_ite, s_brS1, s_brS0, s_pass, s_rais, s_try, s_kTry, s_hNil, s_brH1, s_brH0, s_kH, s_for, s_bOne, b_nil, b_cons, b_kSeqN, b_kSeqR, f_kFnN, f_kFnR, f_eFn, l_nil, l_cons, l_kFLN, l_kFLR, d_set0, d_setS, d_get0, d_getS, d_bt, d_bf, d_nt, d_nf, d_gi, o_add, o_sub, o_mul, o_mod, o_fdiv, o_pow, o_addS, o_mulS, o_idxT, o_sl, c_lt, c_le, c_gt, c_ge, c_eqI, c_isn, x_len, x_min3, x_max2, x_intB, x_isiV, x_for, List.map_cons, List.map_nil, List.cons_append, List.nil_append, List.replicate_succ, List.replicate_zero, Nat.reduceSub, Nat.reduceAdd, Int.reduceAbs, Nat.reduceLT, Nat.reducePow, Nat.reduceLeDiff, Int.reduceLE, Int.reduceLT, Int.le_refl, ne_eq, Int.reduceEq, not_false_eq_true, true_and, and_true, decide_true, decide_false, Int.reduceToNat, Int.toNat_zero, Int.toNat_one, List.getElem?_cons_succ, List.getElem?_cons_zero, if_true, if_false, Bool.false_eq_true]
  generalize three.fmod 31 = m
  intro a ha
  refine init_wp (upd_self' _ _ _) fun σ₁ a1 a2 => ?_
  simp -implicitDefEqProofs only [e_lookV, e_var, e_c, e_nil, e_cons, e_kEs1, e_kEs2, e_tup, e_kTup, e_lst, e_kLst, e_o2, e_kO1, e_kO2, e_o1, e_kU, e_oN, e_kN, e_neg, e_not, e_bl, e_kBool, e_blNil, e_blCons, e_onT, e_kBl, e_brBl1, e_brBl0, e_brBlN, e_brBlM, e_cmp, e_kCmp, e_cNil, e_cCons, e_kCh1, e_kCh2n, e_kCh20, e_kCh21, e_call, e_kCall, e_new, e_kNew, e_kInit, e_meth, e_kMeth2, s_assign, s_kAsg, s_kE, s_setAttr, s_kSA1, s_expr, s_kExp, s_ret, s_kRet, s_ret0, s_ite, s_brS1, s_brS0, s_pass, s_rais, s_try, s_kTry, s_hNil, s_brH1, s_brH0, s_kH, s_for, s_bOne, b_nil, b_cons, b_kSeqN, b_kSeqR, f_kFnN, f_kFnR, f_eFn, l_nil, l_cons, l_kFLN, l_kFLR, d_set0, d_setS, d_get0, d_getS, d_bt, d_bf, d_nt, d_nf, d_gi, o_add, o_sub, o_mul, o_mod, o_fdiv, o_pow, o_addS, o_mulS, o_idxT, o_sl, c_lt, c_le, c_gt, c_ge, c_eqI, c_isn, x_len, x_min3, x_max2, x_intB, x_isiV, x_for, List.map_cons, List.map_nil, List.cons_append, List.nil_append, List.replicate_succ, List.replicate_zero, Nat.reduceSub, Nat.reduceAdd, Int.reduceAbs, Nat.reduceLT, Nat.reducePow, Nat.reduceLeDiff, Int.reduceLE, Int.reduceLT, Int.le_refl, ne_eq, Int.reduceEq, not_false_eq_true, true_and, and_true, decide_true, decide_false, Int.reduceToNat, Int.toNat_zero, Int.toNat_one, List.getElem?_cons_succ, List.getElem?_cons_zero, if_true, if_false, Bool.false_eq_true]
  intro o ho
  have ne : o ≠ a := fun q => by rw [q, a1] at ho; cases ho
  refine init_wp (upd_self' _ _ _) fun σ₂ o1 o2 => ?_
  have a3 : σ₂ a = some (S w r m 0 0) := by rw [o2 a (Ne.symm ne), upd_ne' _ _ (Ne.symm ne)]; exact a1
  clear a1 a2 o2 ho ha
  simp -implicitDefEqProofs only [e_lookV, e_var, e_c, e_nil, e_cons, e_kEs1, e_kEs2, e_tup, e_kTup, e_lst, e_kLst, e_o2, e_kO1, e_kO2, e_o1, e_kU, e_oN, e_kN, e_neg, e_not, e_bl, e_kBool, e_blNil, e_blCons, e_onT, e_kBl, e_brBl1, e_brBl0, e_brBlN, e_brBlM, e_cmp, e_kCmp, e_cNil, e_cCons, e_kCh1, e_kCh2n, e_kCh20, e_kCh21, e_call, e_kCall, e_new, e_kNew, e_kInit, e_meth, e_kMeth2, s_assign, s_kAsg, s_kE, s_setAttr, s_kSA1, s_expr, s_kExp, s_ret, s_kRet, s_ret0, s_ite, s_brS1, s_brS0, s_pass, s_rais, s_try, s_kTry, s_hNil, s_brH1, s_brH0, s_kH, s_for, s_bOne, b_nil, b_cons, b_kSeqN, b_kSeqR, f_kFnN, f_kFnR, f_eFn, l_nil, l_cons, l_kFLN, l_kFLR, d_set0, d_setS, d_get0, d_getS, d_bt, d_bf, d_nt, d_nf, d_gi, o_add, o_sub, o_mul, o_mod, o_fdiv, o_pow, o_addS, o_mulS, o_idxT, o_sl, c_lt, c_le, c_gt, c_ge, c_eqI, c_isn, x_len, x_min3, x_max2, x_intB, x_isiV, x_for, List.map_cons, List.map_nil, List.cons_append, List.nil_append, List.replicate_succ, List.replicate_zero, Nat.reduceSub, Nat.reduceAdd, Int.reduceAbs, Nat.reduceLT, Nat.reducePow, Nat.reduceLeDiff, Int.reduceLE, Int.reduceLT, Int.le_refl, ne_eq, Int.reduceEq, not_false_eq_true, true_and, and_true, decide_true, decide_false, Int.reduceToNat, Int.toNat_zero, Int.toNat_one, List.getElem?_cons_succ, List.getElem?_cons_zero, if_true, if_false, Bool.false_eq_true]
  refine span_law a3 ?_
  simp -implicitDefEqProofs only [e_lookV, e_var, e_c, e_nil, e_cons, e_kEs1, e_kEs2, e_tup, e_kTup, e_lst, e_kLst, e_o2, e_kO1, e_kO2, e_o1, e_kU, e_oN, e_kN, e_neg, e_not, e_bl, e_kBool, e_blNil, e_blCons, e_onT, e_kBl, e_brBl1, e_brBl0, e_brBlN, e_brBlM, e_cmp, e_kCmp, e_cNil, e_cCons, e_kCh1, e_kCh2n, e_kCh20, e_kCh21, e_call, e_kCall, e_new, e_kNew, e_kInit, e_meth, e_kMeth2, s_assign, s_kAsg, s_kE, s_setAttr, s_kSA1, s_expr, s_kExp, s_ret, s_kRet, s_ret0, s_ite, s_brS1, s_brS0, s_pass, s_rais, s_try, s_kTry, s_hNil, s_brH1, s_brH0, s_kH, s_for, s_bOne, b_nil, b_cons, b_kSeqN, b_kSeqR, f_kFnN, f_kFnR, f_eFn, l_nil, l_cons, l_kFLN, l_kFLR, d_set0, d_setS, d_get0, d_getS, d_bt, d_bf, d_nt, d_nf, d_gi, o_add, o_sub, o_mul, o_mod, o_fdiv, o_pow, o_addS, o_mulS, o_idxT, o_sl, c_lt, c_le, c_gt, c_ge, c_eqI, c_isn, x_len, x_min3, x_max2, x_intB, x_isiV, x_for, List.map_cons, List.map_nil, List.cons_append, List.nil_append, List.replicate_succ, List.replicate_zero, Nat.reduceSub, Nat.reduceAdd, Int.reduceAbs, Nat.reduceLT, Nat.reducePow, Nat.reduceLeDiff, Int.reduceLE, Int.reduceLT, Int.le_refl, ne_eq, Int.reduceEq, not_false_eq_true, true_and, and_true, decide_true, decide_false, Int.reduceToNat, Int.toNat_zero, Int.toNat_one, List.getElem?_cons_succ, List.getElem?_cons_zero, if_true, if_false, Bool.false_eq_true]
  refine forL_inv (Inv ns one w r m a o) _ (fun x hx ρ σ R hi hn => ⟨trivial, ?_⟩) ?_ _ _ ⟨0, 0, _, _, _, _, _, _, _, _, rfl, a3, o1, by omega, by omega⟩
  · obtain ⟨c, rfl⟩ := getD3 hx
    exact iter ne (by omega) (by omega) hi hn
  rintro ρ σ ⟨b, t, x9, x10, x11, x12, x13, x14, x15, x16, rfl, h1, h2, h3, h4⟩
  refine ⟨trivial, ?_⟩
  simp -implicitDefEqProofs only [e_lookV, e_var, e_c, e_nil, e_cons, e_kEs1, e_kEs2, e_tup, e_kTup, e_lst, e_kLst, e_o2, e_kO1, e_kO2, e_o1, e_kU, e_oN, e_kN, e_neg, e_not, e_bl, e_kBool, e_blNil, e_blCons, e_onT, e_kBl, e_brBl1, e_brBl0, e_brBlN, e_brBlM, e_cmp, e_kCmp, e_cNil, e_cCons, e_kCh1, e_kCh2n, e_kCh20, e_kCh21, e_call, e_kCall, e_new, e_kNew, e_kInit, e_meth, e_kMeth2, s_assign, s_kAsg, s_kE, s_setAttr, s_kSA1, s_expr, s_kExp, s_ret, s_kRet, s_ret0, s_ite, s_brS1, s_brS0, s_pass, s_rais, s_try, s_kTry, s_hNil, s_brH1, s_brH0, s_kH, s_for, s_bOne, b_nil, b_cons, b_kSeqN, b_kSeqR, f_kFnN, f_kFnR, f_eFn, l_nil, l_cons, l_kFLN, l_kFLR, d_set0, d_setS, d_get0, d_getS, d_bt, d_bf, d_nt, d_nf, d_gi, o_add, o_sub, o_mul, o_mod, o_fdiv, o_pow, o_addS, o_mulS, o_idxT, o_sl, c_lt, c_le, c_gt, c_ge, c_eqI, c_isn, x_len, x_min3, x_max2, x_intB, x_isiV, x_for, List.map_cons, List.map_nil, List.cons_append, List.nil_append, List.replicate_succ, List.replicate_zero, Nat.reduceSub, Nat.reduceAdd, Int.reduceAbs, Nat.reduceLT, Nat.reducePow, Nat.reduceLeDiff, Int.reduceLE, Int.reduceLT, Int.le_refl, ne_eq, Int.reduceEq, not_false_eq_true, true_and, and_true, decide_true, decide_false, Int.reduceToNat, Int.toNat_zero, Int.toNat_one, List.getElem?_cons_succ, List.getElem?_cons_zero, if_true, if_false, Bool.false_eq_true]
  refine at_wp 2 rfl ?_
  simp -implicitDefEqProofs only [e_lookV, e_var, e_c, e_nil, e_cons, e_kEs1, e_kEs2, e_tup, e_kTup, e_lst, e_kLst, e_o2, e_kO1, e_kO2, e_o1, e_kU, e_oN, e_kN, e_neg, e_not, e_bl, e_kBool, e_blNil, e_blCons, e_onT, e_kBl, e_brBl1, e_brBl0, e_brBlN, e_brBlM, e_cmp, e_kCmp, e_cNil, e_cCons, e_kCh1, e_kCh2n, e_kCh20, e_kCh21, e_call, e_kCall, e_new, e_kNew, e_kInit, e_meth, e_kMeth2, s_assign, s_kAsg, s_kE, s_setAttr, s_kSA1, s_expr, s_kExp, s_ret, s_kRet, s_ret0, s_ite, s_brS1, s_brS0, s_pass, s_rais, s_try, s_kTry, s_hNil, s_brH1, s_brH0, s_kH, s_for, s_bOne, b_nil, b_cons, b_kSeqN, b_kSeqR, f_kFnN, f_kFnR, f_eFn, l_nil, l_cons, l_kFLN, l_kFLR, d_set0, d_setS, d_get0, d_getS, d_bt, d_bf, d_nt, d_nf, d_gi, o_add, o_sub, o_mul, o_mod, o_fdiv, o_pow, o_addS, o_mulS, o_idxT, o_sl, c_lt, c_le, c_gt, c_ge, c_eqI, c_isn, x_len, x_min3, x_max2, x_intB, x_isiV, x_for, List.map_cons, List.map_nil, List.cons_append, List.nil_append, List.replicate_succ, List.replicate_zero, Nat.reduceSub, Nat.reduceAdd, Int.reduceAbs, Nat.reduceLT, Nat.reducePow, Nat.reduceLeDiff, Int.reduceLE, Int.reduceLT, Int.le_refl, ne_eq, Int.reduceEq, not_false_eq_true, true_and, and_true, decide_true, decide_false, Int.reduceToNat, Int.toNat_zero, Int.toNat_one, List.getElem?_cons_succ, List.getElem?_cons_zero, if_true, if_false, Bool.false_eq_true]
  refine idx_all (fmod_nn (by decide)) (fmod_lt (by decide)) fun v hv => ?_
  obtain ⟨v1, v2⟩ := odd_no (w := w) (m := m) (t := t) h4 (by omega) hv
  simp -implicitDefEqProofs only [e_lookV, e_var, e_c, e_nil, e_cons, e_kEs1, e_kEs2, e_tup, e_kTup, e_lst, e_kLst, e_o2, e_kO1, e_kO2, e_o1, e_kU, e_oN, e_kN, e_neg, e_not, e_bl, e_kBool, e_blNil, e_blCons, e_onT, e_kBl, e_brBl1, e_brBl0, e_brBlN, e_brBlM, e_cmp, e_kCmp, e_cNil, e_cCons, e_kCh1, e_kCh2n, e_kCh20, e_kCh21, e_call, e_kCall, e_new, e_kNew, e_kInit, e_meth, e_kMeth2, s_assign, s_kAsg, s_kE, s_setAttr, s_kSA1, s_expr, s_kExp, s_ret, s_kRet, s_ret0, s_ite, s_brS1, s_brS0, s_pass, s_rais, s_try, s_kTry, s_hNil, s_brH1, s_brH0, s_kH, s_for, s_bOne, b_nil, b_cons, b_kSeqN, b_kSeqR, f_kFnN, f_kFnR, f_eFn, l_nil, l_cons, l_kFLN, l_kFLR, d_set0, d_setS, d_get0, d_getS, d_bt, d_bf, d_nt, d_nf, d_gi, o_add, o_sub, o_mul, o_mod, o_fdiv, o_pow, o_addS, o_mulS, o_idxT, o_sl, c_lt, c_le, c_gt, c_ge, c_eqI, c_isn, x_len, x_min3, x_max2, x_intB, x_isiV, x_for, List.map_cons, List.map_nil, List.cons_append, List.nil_append, List.replicate_succ, List.replicate_zero, Nat.reduceSub, Nat.reduceAdd, Int.reduceAbs, Nat.reduceLT, Nat.reducePow, Nat.reduceLeDiff, Int.reduceLE, Int.reduceLT, Int.le_refl, ne_eq, Int.reduceEq, not_false_eq_true, true_and, and_true, decide_true, decide_false, Int.reduceToNat, Int.toNat_zero, Int.toNat_one, List.getElem?_cons_succ, List.getElem?_cons_zero, if_true, if_false, Bool.false_eq_true]
  refine said_no h1 v1 v2 ?_
  simp -implicitDefEqProofs only [e_lookV, e_var, e_c, e_nil, e_cons, e_kEs1, e_kEs2, e_tup, e_kTup, e_lst, e_kLst, e_o2, e_kO1, e_kO2, e_o1, e_kU, e_oN, e_kN, e_neg, e_not, e_bl, e_kBool, e_blNil, e_blCons, e_onT, e_kBl, e_brBl1, e_brBl0, e_brBlN, e_brBlM, e_cmp, e_kCmp, e_cNil, e_cCons, e_kCh1, e_kCh2n, e_kCh20, e_kCh21, e_call, e_kCall, e_new, e_kNew, e_kInit, e_meth, e_kMeth2, s_assign, s_kAsg, s_kE, s_setAttr, s_kSA1, s_expr, s_kExp, s_ret, s_kRet, s_ret0, s_ite, s_brS1, s_brS0, s_pass, s_rais, s_try, s_kTry, s_hNil, s_brH1, s_brH0, s_kH, s_for, s_bOne, b_nil, b_cons, b_kSeqN, b_kSeqR, f_kFnN, f_kFnR, f_eFn, l_nil, l_cons, l_kFLN, l_kFLR, d_set0, d_setS, d_get0, d_getS, d_bt, d_bf, d_nt, d_nf, d_gi, o_add, o_sub, o_mul, o_mod, o_fdiv, o_pow, o_addS, o_mulS, o_idxT, o_sl, c_lt, c_le, c_gt, c_ge, c_eqI, c_isn, x_len, x_min3, x_max2, x_intB, x_isiV, x_for, List.map_cons, List.map_nil, List.cons_append, List.nil_append, List.replicate_succ, List.replicate_zero, Nat.reduceSub, Nat.reduceAdd, Int.reduceAbs, Nat.reduceLT, Nat.reducePow, Nat.reduceLeDiff, Int.reduceLE, Int.reduceLT, Int.le_refl, ne_eq, Int.reduceEq, not_false_eq_true, true_and, and_true, decide_true, decide_false, Int.reduceToNat, Int.toNat_zero, Int.toNat_one, List.getElem?_cons_succ, List.getElem?_cons_zero, if_true, if_false, Bool.false_eq_true, ne_ss, beq_self_eq_true, Bool.and_self]
  refine span_law h1 ?_
  simp -implicitDefEqProofs only [e_lookV, e_var, e_c, e_nil, e_cons, e_kEs1, e_kEs2, e_tup, e_kTup, e_lst, e_kLst, e_o2, e_kO1, e_kO2, e_o1, e_kU, e_oN, e_kN, e_neg, e_not, e_bl, e_kBool, e_blNil, e_blCons, e_onT, e_kBl, e_brBl1, e_brBl0, e_brBlN, e_brBlM, e_cmp, e_kCmp, e_cNil, e_cCons, e_kCh1, e_kCh2n, e_kCh20, e_kCh21, e_call, e_kCall, e_new, e_kNew, e_kInit, e_meth, e_kMeth2, s_assign, s_kAsg, s_kE, s_setAttr, s_kSA1, s_expr, s_kExp, s_ret, s_kRet, s_ret0, s_ite, s_brS1, s_brS0, s_pass, s_rais, s_try, s_kTry, s_hNil, s_brH1, s_brH0, s_kH, s_for, s_bOne, b_nil, b_cons, b_kSeqN, b_kSeqR, f_kFnN, f_kFnR, f_eFn, l_nil, l_cons, l_kFLN, l_kFLR, d_set0, d_setS, d_get0, d_getS, d_bt, d_bf, d_nt, d_nf, d_gi, o_add, o_sub, o_mul, o_mod, o_fdiv, o_pow, o_addS, o_mulS, o_idxT, o_sl, c_lt, c_le, c_gt, c_ge, c_eqI, c_isn, x_len, x_min3, x_max2, x_intB, x_isiV, x_for, List.map_cons, List.map_nil, List.cons_append, List.nil_append, List.replicate_succ, List.replicate_zero, Nat.reduceSub, Nat.reduceAdd, Int.reduceAbs, Nat.reduceLT, Nat.reducePow, Nat.reduceLeDiff, Int.reduceLE, Int.reduceLT, Int.le_refl, ne_eq, Int.reduceEq, not_false_eq_true, true_and, and_true, decide_true, decide_false, Int.reduceToNat, Int.toNat_zero, Int.toNat_one, List.getElem?_cons_succ, List.getElem?_cons_zero, if_true, if_false, Bool.false_eq_true]
  refine span_law h2 ?_
  simp -implicitDefEqProofs only [e_lookV, e_var, e_c, e_nil, e_cons, e_kEs1, e_kEs2, e_tup, e_kTup, e_lst, e_kLst, e_o2, e_kO1, e_kO2, e_o1, e_kU, e_oN, e_kN, e_neg, e_not, e_bl, e_kBool, e_blNil, e_blCons, e_onT, e_kBl, e_brBl1, e_brBl0, e_brBlN, e_brBlM, e_cmp, e_kCmp, e_cNil, e_cCons, e_kCh1, e_kCh2n, e_kCh20, e_kCh21, e_call, e_kCall, e_new, e_kNew, e_kInit, e_meth, e_kMeth2, s_assign, s_kAsg, s_kE, s_setAttr, s_kSA1, s_expr, s_kExp, s_ret, s_kRet, s_ret0, s_ite, s_brS1, s_brS0, s_pass, s_rais, s_try, s_kTry, s_hNil, s_brH1, s_brH0, s_kH, s_for, s_bOne, b_nil, b_cons, b_kSeqN, b_kSeqR, f_kFnN, f_kFnR, f_eFn, l_nil, l_cons, l_kFLN, l_kFLR, d_set0, d_setS, d_get0, d_getS, d_bt, d_bf, d_nt, d_nf, d_gi, o_add, o_sub, o_mul, o_mod, o_fdiv, o_pow, o_addS, o_mulS, o_idxT, o_sl, c_lt, c_le, c_gt, c_ge, c_eqI, c_isn, x_len, x_min3, x_max2, x_intB, x_isiV, x_for, List.map_cons, List.map_nil, List.cons_append, List.nil_append, List.replicate_succ, List.replicate_zero, Nat.reduceSub, Nat.reduceAdd, Int.reduceAbs, Nat.reduceLT, Nat.reducePow, Nat.reduceLeDiff, Int.reduceLE, Int.reduceLT, Int.le_refl, ne_eq, Int.reduceEq, not_false_eq_true, true_and, and_true, decide_true, decide_false, Int.reduceToNat, Int.toNat_zero, Int.toNat_one, List.getElem?_cons_succ, List.getElem?_cons_zero, if_true, if_false, Bool.false_eq_true]
  exact hQ _
end Ap.L02
end
section
set_option Elab.async false
set_option maxRecDepth 100000
namespace Ap.L02
open PySem PySem.W
noncomputable abbrev K (p : Params) : Frag := hd02.heap_39 p
def fa : List Addr := [130, 144, 151, 158, 165, 179, 186, 193, 200, 207, 214, 221]
def ca : List Addr := [24, 37, 49, 61, 73, 85, 97, 109, 121, 168]
theorem f0 (p : Params) : FnK (K p) 130 fn0 ft0 := ⟨by kernel_rfl, by kernel_rfl, by kernel_rfl, by kernel_rfl, by kernel_rfl, by kernel_rfl, by kernel_rfl, by kernel_rfl, by kernel_rfl, bind3 fun a b c => by kernel_rfl⟩
theorem f1 (p : Params) : FnK (K p) 144 fn1 ft1 := ⟨by kernel_rfl, by kernel_rfl, by kernel_rfl, by kernel_rfl, by kernel_rfl, by kernel_rfl, by kernel_rfl, by kernel_rfl, by kernel_rfl, bind4 fun a b c d => by kernel_rfl⟩
theorem f2 (p : Params) : FnK (K p) 151 fn2 ft2 := ⟨by kernel_rfl, by kernel_rfl, by kernel_rfl, by kernel_rfl, by kernel_rfl, by kernel_rfl, by kernel_rfl, by kernel_rfl, by kernel_rfl, bind1 fun a => by kernel_rfl⟩
theorem f3 (p : Params) : FnK (K p) 158 fn3 ft3 := ⟨by kernel_rfl, by kernel_rfl, by kernel_rfl, by kernel_rfl, by kernel_rfl, by kernel_rfl, by kernel_rfl, by kernel_rfl, by kernel_rfl, bind2 fun a b => by kernel_rfl⟩
theorem f4 (p : Params) : FnK (K p) 165 fn4 ft4 := ⟨by kernel_rfl, by kernel_rfl, by kernel_rfl, by kernel_rfl, by kernel_rfl, by kernel_rfl, by kernel_rfl, by kernel_rfl, by kernel_rfl, bind2 fun a b => by kernel_rfl⟩
theorem f5 (p : Params) : FnK (K p) 179 fn5 ft5 := ⟨by kernel_rfl, by kernel_rfl, by kernel_rfl, by kernel_rfl, by kernel_rfl, by kernel_rfl, by kernel_rfl, by kernel_rfl, by kernel_rfl, bind2 fun a b => by kernel_rfl⟩
theorem f6 (p : Params) : FnK (K p) 186 fn6 ft6 := ⟨by kernel_rfl, by kernel_rfl, by kernel_rfl, by kernel_rfl, by kernel_rfl, by kernel_rfl, by kernel_rfl, by kernel_rfl, by kernel_rfl, bind2 fun a b => by kernel_rfl⟩
theorem f7 (p : Params) : FnK (K p) 193 fn7 ft7 := ⟨by kernel_rfl, by kernel_rfl, by kernel_rfl, by kernel_rfl, by kernel_rfl, by kernel_rfl, by kernel_rfl, by kernel_rfl, by kernel_rfl, bind1 fun a => by kernel_rfl⟩
theorem f8 (p : Params) : FnK (K p) 200 fn8 ft8 := ⟨by kernel_rfl, by kernel_rfl, by kernel_rfl, by kernel_rfl, by kernel_rfl, by kernel_rfl, by kernel_rfl, by kernel_rfl, by kernel_rfl, bind1 fun a => by kernel_rfl⟩
theorem f9 (p : Params) : FnK (K p) 207 fn9 ft9 := ⟨by kernel_rfl, by kernel_rfl, by kernel_rfl, by kernel_rfl, by kernel_rfl, by kernel_rfl, by kernel_rfl, by kernel_rfl, by kernel_rfl, bind2 fun a b => by kernel_rfl⟩
theorem f10 (p : Params) : FnK (K p) 214 fn10 ft10 := ⟨by kernel_rfl, by kernel_rfl, by kernel_rfl, by kernel_rfl, by kernel_rfl, by kernel_rfl, by kernel_rfl, by kernel_rfl, by kernel_rfl, bind3 fun a b c => by kernel_rfl⟩
theorem f11 (p : Params) : FnK (K p) 221 fn11 ft11 := ⟨by kernel_rfl, by kernel_rfl, by kernel_rfl, by kernel_rfl, by kernel_rfl, by kernel_rfl, by kernel_rfl, by kernel_rfl, by kernel_rfl, bind1 fun a => by kernel_rfl⟩
theorem x0 (p : Params) : ExcK (K p) 24 := ⟨by kernel_rfl, ⟨by kernel_rfl, by kernel_rfl⟩, by kernel_rfl, .inl (by kernel_rfl), by kernel_rfl, by kernel_rfl, by kernel_rfl⟩
theorem x1 (p : Params) : ExcK (K p) 37 := ⟨by kernel_rfl, ⟨by kernel_rfl, by kernel_rfl⟩, by kernel_rfl, .inr ⟨24, by kernel_rfl, by kernel_rfl, ⟨by kernel_rfl, by kernel_rfl⟩, by kernel_rfl⟩, by kernel_rfl, by kernel_rfl, by kernel_rfl⟩
theorem x2 (p : Params) : ExcK (K p) 49 := ⟨by kernel_rfl, ⟨by kernel_rfl, by kernel_rfl⟩, by kernel_rfl, .inr ⟨24, by kernel_rfl, by kernel_rfl, ⟨by kernel_rfl, by kernel_rfl⟩, by kernel_rfl⟩, by kernel_rfl, by kernel_rfl, by kernel_rfl⟩
theorem x3 (p : Params) : ExcK (K p) 61 := ⟨by kernel_rfl, ⟨by kernel_rfl, by kernel_rfl⟩, by kernel_rfl, .inr ⟨24, by kernel_rfl, by kernel_rfl, ⟨by kernel_rfl, by kernel_rfl⟩, by kernel_rfl⟩, by kernel_rfl, by kernel_rfl, by kernel_rfl⟩
theorem x4 (p : Params) : ExcK (K p) 73 := ⟨by kernel_rfl, ⟨by kernel_rfl, by kernel_rfl⟩, by kernel_rfl, .inr ⟨24, by kernel_rfl, by kernel_rfl, ⟨by kernel_rfl, by kernel_rfl⟩, by kernel_rfl⟩, by kernel_rfl, by kernel_rfl, by kernel_rfl⟩
theorem x5 (p : Params) : ExcK (K p) 85 := ⟨by kernel_rfl, ⟨by kernel_rfl, by kernel_rfl⟩, by kernel_rfl, .inr ⟨24, by kernel_rfl, by kernel_rfl, ⟨by kernel_rfl, by kernel_rfl⟩, by kernel_rfl⟩, by kernel_rfl, by kernel_rfl, by kernel_rfl⟩
theorem x6 (p : Params) : ExcK (K p) 97 := ⟨by kernel_rfl, ⟨by kernel_rfl, by kernel_rfl⟩, by kernel_rfl, .inr ⟨24, by kernel_rfl, by kernel_rfl, ⟨by kernel_rfl, by kernel_rfl⟩, by kernel_rfl⟩, by kernel_rfl, by kernel_rfl, by kernel_rfl⟩
theorem x7 (p : Params) : ExcK (K p) 109 := ⟨by kernel_rfl, ⟨by kernel_rfl, by kernel_rfl⟩, by kernel_rfl, .inr ⟨24, by kernel_rfl, by kernel_rfl, ⟨by kernel_rfl, by kernel_rfl⟩, by kernel_rfl⟩, by kernel_rfl, by kernel_rfl, by kernel_rfl⟩
theorem x8 (p : Params) : ExcK (K p) 121 := ⟨by kernel_rfl, ⟨by kernel_rfl, by kernel_rfl⟩, by kernel_rfl, .inr ⟨24, by kernel_rfl, by kernel_rfl, ⟨by kernel_rfl, by kernel_rfl⟩, by kernel_rfl⟩, by kernel_rfl, by kernel_rfl, by kernel_rfl⟩
theorem c9 (p : Params) : ClsK (K p) tabs fa 168 ⟨some 1, [(5, 2), (6, 3), (7, 4)], []⟩ := ⟨by kernel_rfl, ⟨by kernel_rfl, by kernel_rfl⟩, by kernel_rfl, by kernel_rfl, by kernel_rfl, fun f h => by cases h; kernel_rfl, by kernel_rfl, by kernel_rfl⟩
theorem kd (p : Params) : KDat (K p) tabs prg fa ca where
  g := ⟨by kernel_rfl, by kernel_rfl⟩
  fnN := by kernel_rfl
  clsN := by kernel_rfl
  bltN := by kernel_rfl
  inj := by decide +kernel
  ne := by decide +kernel
  objN := by kernel_rfl
  lens := ⟨rfl, rfl, rfl, rfl⟩
  ics := AllI.at0 (P := fun c (ci : ClsI) => ci.init ≠ Option.none → ClsK (K p) tabs fa (ca.getD c 0) ci) (l := clss) ⟨fun h => absurd rfl h, fun h => absurd rfl h, fun h => absurd rfl h, fun h => absurd rfl h, fun h => absurd rfl h, fun h => absurd rfl h, fun h => absurd rfl h, fun h => absurd rfl h, fun h => absurd rfl h, fun _ => c9 p, trivial⟩
  xcs := AllI.at0 (P := fun c (ci : ClsI) => ci.init = Option.none → ExcK (K p) (ca.getD c 0)) (l := clss) ⟨fun _ => x0 p, fun _ => x1 p, fun _ => x2 p, fun _ => x3 p, fun _ => x4 p, fun _ => x5 p, fun _ => x6 p, fun _ => x7 p, fun _ => x8 p, (fun h => by cases h), trivial⟩
  xps := by kernel_rfl
  fns := fun f fi ft h1 h2 => AllI.at0 (P := fun f fi => ∀ ft, tabs.fts[f]? = some ft → FnK (K p) (fa.getD f 0) fi ft) (l := prg.fns) ⟨fun ft h => by cases h; exact f0 p, fun ft h => by cases h; exact f1 p, fun ft h => by cases h; exact f2 p, fun ft h => by cases h; exact f3 p, fun ft h => by cases h; exact f4 p, fun ft h => by cases h; exact f5 p, fun ft h => by cases h; exact f6 p, fun ft h => by cases h; exact f7 p, fun ft h => by cases h; exact f8 p, fun ft h => by cases h; exact f9 p, fun ft h => by cases h; exact f10 p, fun ft h => by cases h; exact f11 p, trivial⟩ f fi h1 ft h2
  sh := by kernel_rfl
theorem bs (C : Cx) (X : CxOk C tabs prg) (F : Calls) (d : Nat) (hF : SndF C prg d F) (f : Nat) (fi : FnI) (ft : FnT) (h1 : prg.fns[f]? = some fi) (h2 : tabs.fts[f]? = some ft) : BothB C d ft.sc ft.nms fi.quiet (fi.body F) ft.body :=
  AllI.at0 (P := fun f fi => ∀ ft, tabs.fts[f]? = some ft → BothB C d ft.sc ft.nms fi.quiet (fi.body F) ft.body) (l := prg.fns) ⟨fun ft h => by cases h; exact b0 X hF, fun ft h => by cases h; exact b1 X hF, fun ft h => by cases h; exact b2 X hF, fun ft h => by cases h; exact b3 X hF, fun ft h => by cases h; exact b4 X hF, fun ft h => by cases h; exact b5 X hF, fun ft h => by cases h; exact b6 X hF, fun ft h => by cases h; exact b7 X hF, fun ft h => by cases h; exact b8 X hF, fun ft h => by cases h; exact b9 X hF, fun ft h => by cases h; exact b10 X hF, fun ft h => by cases h; exact b11 X hF, trivial⟩ f fi h1 ft h2
end Ap.L02
end
section
open PySem PySem.W PyProof.Rows
set_option Elab.async false
set_option maxRecDepth 100000
set_option maxHeartbeats 4000000
namespace Ap.L02
theorem holds_of (hw : ∀ ns : List Int, ns.length ≤ 63 → wpF prg 12 11 [.ilist (ns.map .int)] (fun _ => Option.none) (fun v _ => v = .bool true) fun _ _ => False) : PySem.Challenge.rw_uf020020_02.Holds := hd02 (by
  intro w s₀ s₁ mg mb G Y fa' o pm cd doc dV kV ho hd hcd hD hmg hg args vals as hpre hlay hrd hwl hlo
  have KX := kIn_of Y
  refine Ground.open G ?_
  intro T B D TE TW
  clear B D TE TW
  wrow_args hpre hlay hrd hwl hlo
  refine enter_call ?_
  w_top on
  rename_i ns _ _ _ _ _ _ _ l _ _ _ _ hW _ _ _ hc _
  have hfa : fa' = fa.getD 11 0 := by
    have h1 := ns_uniq T.g ((kd w.params).g.ns KX) (Str.ofString "law")
    have h2 : nsFind (esK (K w.params) mainGlobals) (Str.ofString "law") = some (.ref 221) := by kernel_rfl
    rw [hmg, h2] at h1
    cases h1; rfl
  subst hfa
  rw [ofPy_ints] at hW
  refine codeAny_mono (law_end KX T.g T.b T.nolimit T.builtins (kd w.params) bs hg (ns := ns) hW (by omega) (d := 12) (by decide) (hw ns (by omega))) ?_
  rintro r s' ⟨rfl, h1, h2, h3⟩
  refine GoodW.toG ⟨.inl ⟨.bool true, .bool true, [], rfl, fun _ => rfl, .bool true, ?_, fun _ => ⟨.nil, fun a ha => nomatch ha⟩⟩, h1, h2, h3⟩
  first | kernel_rfl | with_unfolding_all rfl)
theorem holds : PySem.Challenge.rw_uf020020_02.Holds := holds_of fun ns _ => law_wp ns fun _ => rfl
end Ap.L02
end
set_option maxHeartbeats 4000000 in
theorem PySem.Challenge.cw_uf020020_02_holds : PySem.Challenge.rw_uf020020_02.Holds :=
  Ap.L02.holds
