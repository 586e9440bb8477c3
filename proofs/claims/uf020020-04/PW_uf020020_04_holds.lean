import PyProof.Rows.All
import Wide.All
import OpenK.AllK
import Wide.FinOn
import KE.KTryMore
import PyProof.ExcArgsOwn
import PyProof.ExcBaseAll.ValueError
import PyProof.ExcAttrAll.ValueError
import Wide.Well
import Wide.BridgeG
import KE.LcSums
import KE.KDictSum
import Wide.Txt2
import KE.KIntText
import OpenK.KTop
import Lean
import PySem.Challenge.RW_uf020020_04
set_option Elab.async false
section
set_option Elab.async false
set_option genSizeOf false
set_option genSizeOfSpec false
set_option linter.unusedVariables false
namespace Ap
open PySem
inductive AV where
  | none
  | bool (b : Bool)
  | int (i : Int)
  | str (s : Str)
  | tup (xs : List AV)
  | ilist (xs : List AV)
  | obj (a : Nat)
  | exn (c : Nat)
inductive AObj where
  | list (xs : List AV)
  | dictI (es : List (Int × AV))
  | dictS (es : List (Str × AV))
  | inst (c : Nat) (fs : List (Nat × AV))
abbrev St := Nat → Option AObj
abbrev Loc := List (Option AV)
noncomputable def upd (σ : St) (a : Nat) (o : AObj) : St := fun b => if b = a then some o else σ b
inductive Fl | next | ret (v : AV)
abbrev PQ := AV → St → Prop
abbrev PE := Nat → St → Prop
abbrev QS := Fl → Loc → St → Prop
abbrev ES := Nat → Loc → St → Prop
abbrev Calls := Nat → List AV → St → PQ → PE → Prop
abbrev WE := Loc → St → PQ → PE → Prop
abbrev WL := Loc → St → (List AV → St → Prop) → PE → Prop
abbrev WBl := Loc → St → (Bool → St → Prop) → PE → Prop
abbrev WS := Loc → St → QS → ES → Prop
abbrev WH := Nat → WS
structure FnI where
  quiet : Bool
  arity : Nat
  nloc : Nat
  body : Calls → WS
structure ClsI where
  init : Option Nat
  meths : List (Nat × Nat)
  sups : List Nat
structure Prg where
  fns : List FnI
  cls : List ClsI
  globs : List AV
noncomputable def putF {κ : Type} [DecidableEq κ] (k : κ) (v : AV) (es : List (κ × AV)) : List (κ × AV) :=
  if es.any (fun e => e.1 = k) then es.map (fun e => if e.1 = k then (e.1, v) else e) else es ++ [(k, v)]
noncomputable def lookF {κ : Type} [DecidableEq κ] (es : List (κ × AV)) (k : κ) : Option AV := (es.find? fun e => e.1 = k).map (·.2)
noncomputable def setL (ρ : Loc) (x : Nat) (v : AV) : Loc := ρ.set x (some v)
noncomputable def getL (ρ : Loc) (x : Nat) : Option AV := ρ.getD x Option.none
noncomputable def lookV (Q : PQ) (σ : St) : Option AV → Prop
  | some v => Q v σ
  | Option.none => False
def vVar (i : Nat) : WE := fun ρ σ Q _ => lookV Q σ (getL ρ i)
def vC (v : AV) : WE := fun _ σ Q _ => Q v σ
def kEs2 (v : AV) (Q : List AV → St → Prop) : List AV → St → Prop := fun vs σ => Q (v :: vs) σ
def kEs1 (es : WL) (ρ : Loc) (Q : List AV → St → Prop) (E : PE) : PQ := fun v σ => es ρ σ (kEs2 v Q) E
def lNil : WL := fun _ σ Q _ => Q [] σ
def lCons (e : WE) (es : WL) : WL := fun ρ σ Q E => e ρ σ (kEs1 es ρ Q E) E
def kTup (Q : PQ) : List AV → St → Prop := fun vs σ => Q (.tup vs) σ
def vTup (es : WL) : WE := fun ρ σ Q E => es ρ σ (kTup Q) E
def mkL (own : Bool) (xs : List AV) (σ : St) (Q : PQ) : Prop :=
  match own with
  | true => ∀ a, σ a = Option.none → Q (.obj a) (upd σ a (.list xs))
  | false => Q (.ilist xs) σ
def kLst (own : Bool) (Q : PQ) : List AV → St → Prop := fun vs σ => mkL own vs σ Q
def vLst (own : Bool) (es : WL) : WE := fun ρ σ Q E => es ρ σ (kLst own Q) E
abbrev O2 := AV → AV → St → PQ → Prop
def kO2 (f : O2) (va : AV) (Q : PQ) : PQ := fun vb σ => f va vb σ Q
def kO1 (f : O2) (b : WE) (ρ : Loc) (Q : PQ) (E : PE) : PQ := fun va σ => b ρ σ (kO2 f va Q) E
def vO2 (f : O2) (a b : WE) : WE := fun ρ σ Q E => a ρ σ (kO1 f b ρ Q E) E
abbrev O1 := AV → St → PQ → Prop
def kU (f : O1) (Q : PQ) : PQ := fun v σ => f v σ Q
def vO1 (f : O1) (a : WE) : WE := fun ρ σ Q E => a ρ σ (kU f Q) E
abbrev ON := List AV → St → PQ → Prop
def kN (f : ON) (Q : PQ) : List AV → St → Prop := fun vs σ => f vs σ Q
def vON (f : ON) (es : WL) : WE := fun ρ σ Q E => es ρ σ (kN f Q) E
def onI (f : Int → St → PQ → Prop) : O1 := fun v σ Q => match v with | .int x => f x σ Q | _ => False
def onB (f : Bool → St → PQ → Prop) : O1 := fun v σ Q => match v with | .bool x => f x σ Q | _ => False
def oNeg : O1 := onI fun x σ Q => Q (.int (-x)) σ
def oNot : O1 := onB fun x σ Q => Q (.bool (!x)) σ
def kBool (Q : PQ) : Bool → St → Prop := fun b σ => Q (.bool b) σ
def onT (R : Bool → St → Prop) : PQ := fun v σ => match v with | .bool b => R b σ | _ => False
def blNil (and : Bool) : WBl := fun _ σ Q _ => Q and σ
def brBl (r : WBl) (ρ : Loc) (Q : Bool → St → Prop) (E : PE) (b t : Bool) (σ : St) : Prop := match t with
  | true => r ρ σ Q E
  | false => Q b σ
def kBl (and : Bool) (r : WBl) (ρ : Loc) (Q : Bool → St → Prop) (E : PE) : Bool → St → Prop := fun b σ => brBl r ρ Q E b (b == and) σ
def blCons (and : Bool) (e : WE) (r : WBl) : WBl := fun ρ σ Q E => e ρ σ (onT (kBl and r ρ Q E)) E
def vBl (r : WBl) : WE := fun ρ σ Q E => r ρ σ (kBool Q) E
abbrev OC := AV → AV → St → (Bool → Prop) → Prop
def cNil : AV → WBl := fun _ _ σ Q _ => Q true σ
def kCh2 (vb : AV) (r : AV → WBl) (ρ : Loc) (Q : Bool → St → Prop) (E : PE) (σ : St) : Bool → Prop := fun t => match t with
  | false => Q false σ
  | true => r vb ρ σ Q E
def kCh1 (va : AV) (f : OC) (r : AV → WBl) (ρ : Loc) (Q : Bool → St → Prop) (E : PE) : PQ := fun vb σ => f va vb σ (kCh2 vb r ρ Q E σ)
def cCons (f : OC) (e : WE) (r : AV → WBl) : AV → WBl := fun va ρ σ Q E => e ρ σ (kCh1 va f r ρ Q E) E
def kCmp (c : AV → WBl) (ρ : Loc) (Q : PQ) (E : PE) : PQ := fun va σ => c va ρ σ (kBool Q) E
def vCmp (a : WE) (c : AV → WBl) : WE := fun ρ σ Q E => a ρ σ (kCmp c ρ Q E) E
def brE (a b : WE) (ρ : Loc) (Q : PQ) (E : PE) : Bool → St → Prop := fun t σ => match t with
  | true => a ρ σ Q E
  | false => b ρ σ Q E
def vIte (c a b : WE) : WE := fun ρ σ Q E => c ρ σ (onT (brE a b ρ Q E)) E
def kCall (F : Calls) (f : Nat) (Q : PQ) (E : PE) : List AV → St → Prop := fun vs σ => F f vs σ Q E
def vCall (F : Calls) (f : Nat) (es : WL) : WE := fun ρ σ Q E => es ρ σ (kCall F f Q E) E
def kInit (a : Nat) (Q : PQ) : PQ := fun r σ => match r with | .none => Q (.obj a) σ | _ => False
def kNew (F : Calls) (c f : Nat) (Q : PQ) (E : PE) : List AV → St → Prop := fun vs σ => ∀ a, σ a = Option.none → F f (.obj a :: vs) (upd σ a (.inst c [])) (kInit a Q) E
def vNew (F : Calls) (c f : Nat) (es : WL) : WE := fun ρ σ Q E => es ρ σ (kNew F c f Q E) E
def kMeth2 (F : Calls) (f a : Nat) (Q : PQ) (E : PE) : List AV → St → Prop := fun vs σ => F f (.obj a :: vs) σ Q E
def kMeth (F : Calls) (c m f : Nat) (es : WL) (ρ : Loc) (Q : PQ) (E : PE) : PQ := fun v σ => ∃ a fs, v = .obj a ∧ σ a = some (.inst c fs) ∧ lookF fs m = Option.none ∧ es ρ σ (kMeth2 F f a Q E) E
def vMeth (F : Calls) (c m f : Nat) (e : WE) (es : WL) : WE := fun ρ σ Q E => e ρ σ (kMeth F c m f es ρ Q E) E
def oAttr (c f : Nat) : O1 := fun v σ Q => ∃ a fs u, v = .obj a ∧ σ a = some (.inst c fs) ∧ lookF fs f = some u ∧ Q u σ
def plainV : AV → Bool
  | .obj _ => false
  | .exn _ => false
  | _ => true
inductive Ty | int | bool | str | list | tuple
def isTy : Ty → AV → Bool
  | .int, .int _ => true
  | .int, .bool _ => true
  | .bool, .bool _ => true
  | .str, .str _ => true
  | .list, .ilist _ => true
  | .tuple, .tup _ => true
  | _, _ => false
def oIsi (t : Ty) : O1 := fun v σ Q => plainV v = true ∧ Q (.bool (isTy t v)) σ
def oIsiX (cs : List ClsI) (d : Nat) : O1 := fun v σ Q => ∃ c ci, v = .exn c ∧ cs[c]? = some ci ∧ Q (.bool (ci.sups.contains d)) σ
def oIsiV : O1 := fun v σ Q => ∃ c, v = .exn c ∧ Q (.bool true) σ
def kE (E : ES) (ρ : Loc) : PE := fun c σ => E c ρ σ
def kAsg (x : Nat) (ρ : Loc) (Q : QS) : PQ := fun v σ => Q .next (setL ρ x v) σ
def sAssign (x : Nat) (e : WE) : WS := fun ρ σ Q E => e ρ σ (kAsg x ρ Q) (kE E ρ)
def kSA2 (c f : Nat) (v : AV) (ρ : Loc) (Q : QS) : PQ := fun u σ => ∃ a fs, u = .obj a ∧ σ a = some (.inst c fs) ∧ fs.length < 100 ∧ Q .next ρ (upd σ a (.inst c (putF f v fs)))
def kSA1 (o : WE) (c f : Nat) (ρ : Loc) (Q : QS) (E : ES) : PQ := fun v σ => o ρ σ (kSA2 c f v ρ Q) (kE E ρ)
def sSetAttr (o : WE) (c f : Nat) (e : WE) : WS := fun ρ σ Q E => e ρ σ (kSA1 o c f ρ Q E) (kE E ρ)
def kExp (ρ : Loc) (Q : QS) : PQ := fun _ σ => Q .next ρ σ
def sExpr (e : WE) : WS := fun ρ σ Q E => e ρ σ (kExp ρ Q) (kE E ρ)
def kRet (ρ : Loc) (Q : QS) : PQ := fun v σ => Q (.ret v) ρ σ
def sRet (e : WE) : WS := fun ρ σ Q E => e ρ σ (kRet ρ Q) (kE E ρ)
def brS (a b : WS) (ρ : Loc) (Q : QS) (E : ES) : Bool → St → Prop := fun t σ => match t with
  | true => a ρ σ Q E
  | false => b ρ σ Q E
def sIte (c : WE) (a b : WS) : WS := fun ρ σ Q E => c ρ σ (onT (brS a b ρ Q E)) (kE E ρ)
def kSeq (r : WS) (Q : QS) (E : ES) : QS := fun fl ρ σ => match fl with
  | .next => r ρ σ Q E
  | .ret v => Q (.ret v) ρ σ
def bNil : WS := fun ρ σ Q _ => Q .next ρ σ
def bCons (s r : WS) : WS := fun ρ σ Q E => s ρ σ (kSeq r Q E) E
def sRais (c : Nat) : WS := fun ρ σ _ E => E c ρ σ
def kH (Q : QS) : QS := fun fl _ σ => match fl with
  | .ret v => Q (.ret v) [] σ
  | .next => False
def eNoS : ES := fun _ _ _ => False
def hNil : WH := fun c ρ σ _ E => E c ρ σ
def brH (c : Nat) (x : Nat) (b : WS) (r : WH) (ρ : Loc) (σ : St) (Q : QS) (E : ES) : Bool → Prop := fun t => match t with
  | true => b (setL ρ x (.exn c)) σ (kH Q) eNoS
  | false => r c ρ σ Q E
def hCons (cs : List ClsI) (d x : Nat) (b : WS) (r : WH) : WH := fun c ρ σ Q E => ∃ ci, cs[c]? = some ci ∧ brH c x b r ρ σ Q E (ci.sups.contains d)
def kTry (h : WH) (Q : QS) (E : ES) : ES := fun c ρ σ => h c ρ σ Q E
def sTry (b : WS) (h : WH) : WS := fun ρ σ Q E => b ρ σ Q (kTry h Q E)
/- loops over the items xs; G must hold all along -/
def kFL (go : Loc → St → QS → Prop) (Q : QS) : QS := fun fl ρ σ => match fl with
  | .next => go ρ σ Q
  | .ret v => Q (.ret v) ρ σ
def forL (G : St → Prop) (B : AV → Loc → St → QS → Prop) : List AV → Loc → St → QS → Prop
  | [], ρ, σ, Q => G σ ∧ Q .next ρ σ
  | x :: xs, ρ, σ, Q => G σ ∧ B x ρ σ (kFL (forL G B xs) Q)
noncomputable def seqOf (σ : St) : AV → Option (List AV)
  | .ilist xs => some xs
  | .obj a => match σ a with
    | some (.list xs) => some xs
    | _ => Option.none
  | _ => Option.none
def guardOf : AV → List AV → St → Prop
  | .obj a, xs, σ => σ a = some (.list xs)
  | _, _, _ => True
def bOne (x : Nat) (body : WS) (E : ES) : AV → Loc → St → QS → Prop := fun v ρ σ R => body (setL ρ x v) σ R E
def kFor (x : Nat) (body : WS) (ρ : Loc) (Q : QS) (E : ES) : PQ := fun v σ => ∃ xs, seqOf σ v = some xs ∧ forL (guardOf v xs) (bOne x body E) xs ρ σ Q
def sFor (x : Nat) (e : WE) (body : WS) : WS := fun ρ σ Q E => e ρ σ (kFor x body ρ Q E) (kE E ρ)
def kFn (Q : PQ) : QS := fun fl _ σ => match fl with
  | .ret v => Q v σ
  | .next => Q .none σ
def eFn (E : PE) : ES := fun c _ σ => E c σ
def wpF (P : Prg) : Nat → Calls
  | 0 => fun _ _ _ _ _ => False
  | d + 1 => fun f vs σ Q E => ∃ fd, P.fns[f]? = some fd ∧ vs.length = fd.arity ∧ fd.body (wpF P d) (vs.map some ++ List.replicate (fd.nloc - fd.arity) Option.none) σ (kFn Q) (eFn E)
end Ap
end
section
set_option Elab.async false
set_option genSizeOf false
set_option genSizeOfSpec false
set_option linter.unusedVariables false
set_option linter.unusedSimpArgs false
namespace Ap
open PySem PySem.Calls PyProof.Rows
structure Cx where
  prog : Program
  w : World
  base : Heap
  clsA : Nat → Addr
  fnA : Nat → Addr
  nm : Nat → Str
  mg : Str → Option Value
  mb : Str → Option Value
  ics : List Nat
  xcs : List Nat
abbrev lstO (vs : List Value) (n : Nat) : Obj := { cls := .type "list", data := .seq vs.toArray n }
abbrev tupO (vs : List Value) (n : Nat) : Obj := { cls := .type "tuple", data := .seq vs.toArray n }
def IsL (h : Heap) (a : Addr) (vs : List Value) : Prop := vs.length ≤ 16777216 ∧ ∃ n, h.get? a = some (lstO vs n)
def IsT (h : Heap) (a : Addr) (vs : List Value) : Prop := vs.length ≤ 16777216 ∧ ∃ n, h.get? a = some (tupO vs n)
theorem IsL.isList {h : Heap} {a : Addr} {vs : List Value} (x : IsL h a vs) : h.IsList a vs.toArray := by
  obtain ⟨_, n, e⟩ := x
  exact ⟨_, e, rfl, n, rfl⟩
theorem IsT.isTuple {h : Heap} {a : Addr} {vs : List Value} (x : IsT h a vs) : h.IsTuple a vs.toArray := by
  obtain ⟨_, n, e⟩ := x
  exact ⟨_, e, rfl, n, rfl⟩
mutual
inductive VR (C : Cx) (Z : Nat → Prop) (h : Heap) : AV → Value → Prop
  | none : VR C Z h .none .none
  | bool (b : Bool) : VR C Z h (.bool b) (.bool b)
  | int (i : Int) (t : Tok) : VR C Z h (.int i) (.int i t)
  | str (s : Str) (t : Tok) (ok : PyData.strOk s = true) : VR C Z h (.str s) (.str s t)
  | tup {a : Addr} {vs : List Value} {xs : List AV} (at_ : IsT h a vs) (off : ¬ Z a) (r : VRs C Z h xs vs) : VR C Z h (.tup xs) (.ref a)
  | ilist {a : Addr} {vs : List Value} {xs : List AV} (at_ : IsL h a vs) (off : ¬ Z a) (r : VRs C Z h xs vs) : VR C Z h (.ilist xs) (.ref a)
  | obj (a : Nat) : VR C Z h (.obj a) (.ref a)
  | exn {e : Addr} {o : Obj} {c : Nat} {vs : Array Value} (at_ : h.get? e = some o) (cls : o.cls = .ref (C.clsA c)) (dt : o.data = .fields vs) (dn : o.dict = Option.none) (cx : c ∈ C.xcs) (off : ¬ Z e) : VR C Z h (.exn c) (.ref e)
inductive VRs (C : Cx) (Z : Nat → Prop) (h : Heap) : List AV → List Value → Prop
  | nil : VRs C Z h [] []
  | cons {x : AV} {v : Value} {xs : List AV} {vs : List Value} (hd : VR C Z h x v) (tl : VRs C Z h xs vs) : VRs C Z h (x :: xs) (v :: vs)
end
def Kp (Z : Nat → Prop) (h h' : Heap) : Prop := ∀ b o, h.get? b = some o → ¬ Z b → h'.get? b = some o
theorem IsT.kp {h h' : Heap} {Z : Nat → Prop} {a : Addr} {vs : List Value} (k : Kp Z h h') (n : ¬ Z a) (x : IsT h a vs) : IsT h' a vs := by
  obtain ⟨z, m, e⟩ := x
  exact ⟨z, m, k a _ e n⟩
theorem IsL.kp {h h' : Heap} {Z : Nat → Prop} {a : Addr} {vs : List Value} (k : Kp Z h h') (n : ¬ Z a) (x : IsL h a vs) : IsL h' a vs := by
  obtain ⟨z, m, e⟩ := x
  exact ⟨z, m, k a _ e n⟩
def Zg (Z Z' : Nat → Prop) (h : Heap) : Prop := ∀ b, Z' b → Z b ∨ h.get? b = none
theorem Zg.not {Z Z' : Nat → Prop} {h : Heap} (g : Zg Z Z' h) {a : Addr} {o : Obj} (e : h.get? a = some o) (n : ¬ Z a) : ¬ Z' a := fun q => by
  rcases g a q with q | q
  · exact n q
  · rw [e] at q; cases q
theorem Zg.refl (Z : Nat → Prop) (h : Heap) : Zg Z Z h := fun _ q => .inl q
mutual
theorem VR.kp {C : Cx} {Z Z' : Nat → Prop} {h h' : Heap} (k : Kp Z h h') (g : Zg Z Z' h) {x : AV} {v : Value} (r : VR C Z h x v) : VR C Z' h' x v := by
  cases r with
  | none => exact .none
  | bool b => exact .bool b
  | int i t => exact .int i t
  | str s t ok => exact .str s t ok
  | tup at_ off r =>
    refine .tup (at_.kp k off) ?_ (VRs.kp k g r)
    obtain ⟨_, _, e⟩ := at_
    exact g.not e off
  | ilist at_ off r =>
    refine .ilist (at_.kp k off) ?_ (VRs.kp k g r)
    obtain ⟨_, _, e⟩ := at_
    exact g.not e off
  | obj a => exact .obj a
  | exn at_ cls dt dn cx off => exact .exn (k _ _ at_ off) cls dt dn cx (g.not at_ off)
theorem VRs.kp {C : Cx} {Z Z' : Nat → Prop} {h h' : Heap} (k : Kp Z h h') (g : Zg Z Z' h) {xs : List AV} {vs : List Value} (r : VRs C Z h xs vs) : VRs C Z' h' xs vs := by
  cases r with
  | nil => exact .nil
  | cons hd tl => exact .cons (VR.kp k g hd) (VRs.kp k g tl)
end
theorem VRs.length {C : Cx} {Z : Nat → Prop} {h : Heap} : ∀ {xs : List AV} {vs : List Value}, VRs C Z h xs vs → xs.length = vs.length := by
  intro xs
  induction xs with
  | nil => intro vs r; cases r; rfl
  | cons x xs ih => intro vs r; cases r with | cons hd tl => exact congrArg Nat.succ (ih tl)
theorem VRs.append {C : Cx} {Z : Nat → Prop} {h : Heap} {ys : List AV} {us : List Value} (r : VRs C Z h ys us) : ∀ {xs : List AV} {vs : List Value}, VRs C Z h xs vs → VRs C Z h (xs ++ ys) (vs ++ us) := by
  intro xs
  induction xs with
  | nil => intro vs q; cases q; exact r
  | cons x xs ih => intro vs q; cases q with | cons hd tl => exact .cons hd (ih tl)
theorem VRs.get {C : Cx} {Z : Nat → Prop} {h : Heap} : ∀ {xs : List AV} {vs : List Value}, VRs C Z h xs vs → ∀ (i : Nat) (x : AV), xs[i]? = some x → ∃ v, vs[i]? = some v ∧ VR C Z h x v := by
  intro xs
  induction xs with
  | nil => intro vs r i x e; cases e
  | cons y xs ih =>
    intro vs r i x e
    cases r with | cons hd tl =>
    cases i with
    | zero => cases e; exact ⟨_, rfl, hd⟩
    | succ i => exact ih tl i x e
def FMap (C : Cx) (Z : Nat → Prop) (h : Heap) (fs : List (Nat × AV)) (mA : Str → Option Value) : Prop :=
  (∀ f v, lookF fs f = some v → ∃ u, mA (C.nm f) = some u ∧ VR C Z h v u) ∧ ∀ x, mA x ≠ Option.none → x ∈ fs.map fun p => C.nm p.1
theorem FMap.kp {C : Cx} {Z Z' : Nat → Prop} {h h' : Heap} (k : Kp Z h h') (g : Zg Z Z' h) {fs : List (Nat × AV)} {mA : Str → Option Value} (x : FMap C Z h fs mA) : FMap C Z' h' fs mA := by
  refine ⟨fun f v e => ?_, x.2⟩
  obtain ⟨u, e', r⟩ := x.1 f v e
  exact ⟨u, e', r.kp k g⟩
def ORep (C : Cx) (Z : Nat → Prop) (ow : Nat → Option Nat) (h : Heap) (a : Addr) : AObj → Prop
  | .list xs => ∃ vs, IsL h a vs ∧ VRs C Z h xs vs
  | .dictI es => ∃ kvs, h.DictOf (intKind C.prog C.w) a kvs ∧ (a == sysModules) = false ∧ kvs.map (·.1) = es.map (·.1) ∧ VRs C Z h (es.map (·.2)) (kvs.map (·.2))
  | .dictS es => ∃ kvs, h.DictOf (strKind C.prog C.w) a kvs ∧ (a == sysModules) = false ∧ kvs.map (·.1) = es.map (·.1) ∧ VRs C Z h (es.map (·.2)) (kvs.map (·.2))
  | .inst c fs => ∃ o dx mA, h.get? a = some o ∧ o.cls = .ref (C.clsA c) ∧ (∀ k, o.data ≠ .cls k) ∧ o.dict = some dx ∧ dx ≠ a ∧ ow dx = some a ∧ h.Ns1 dx mA ∧ (c ∈ C.ics ∧ fs.length ≤ 1000) ∧ FMap C Z h fs mA
def Own (σ : St) (ow : Nat → Option Nat) (b : Nat) : Prop := (σ b).isSome = true ∨ (ow b).isSome = true
def Zs (σ : St) (ow : Nat → Option Nat) (fs : List Addr) (b : Nat) : Prop := Own σ ow b ∨ b ∈ fs
structure Vo where
  l : List Env
  fs : List Addr
  its : List Addr
abbrev frs (envs : Vo) : List Addr := envs.fs
abbrev zss (envs : Vo) : List Addr := envs.fs ++ envs.its
theorem Vo.sub (envs : Vo) : ∀ b ∈ frs envs, b ∈ zss envs := fun _ h => List.mem_append_left _ h
structure Good (C : Cx) (envs : Vo) (σ : St) (ow : Nat → Option Nat) (s : Shared) : Prop where
  stays : C.base.StaysIn s.heap
  frames : s.heap.FunFrames C.base envs.l
  apart : ∀ b ∈ envs.its, b ∉ envs.fs
  mem : ∀ b, b ∈ zss envs → C.base.get? b = Option.none ∧ ∃ o, s.heap.get? b = some o
  sub : ∀ env ∈ envs.l, ∀ L, env.frame = some L → L ∈ envs.fs
  store : ∀ a o, σ a = some o → ORep C (Zs σ ow (zss envs)) ow s.heap a o
  parts : ∀ b a, ow b = some a → σ b = Option.none ∧ C.base.get? b = Option.none ∧ (s.heap.get? b).isSome = true
  fresh : ∀ a, (σ a).isSome = true → C.base.get? a = Option.none
  off : ∀ L ∈ zss envs, ¬ Own σ ow L
  gens : s.gens = #[]
theorem ORep.live {C : Cx} {Z : Nat → Prop} {ow : Nat → Option Nat} {h : Heap} {a : Addr} {o : AObj} (x : ORep C Z ow h a o) : (h.get? a).isSome = true := by
  cases o with
  | list xs => obtain ⟨_, ⟨_, _, e⟩, _⟩ := x; rw [e]; rfl
  | dictI es => obtain ⟨_, ⟨_, _, _, e, _⟩, _⟩ := x; rw [e]; rfl
  | dictS es => obtain ⟨_, ⟨_, _, _, e, _⟩, _⟩ := x; rw [e]; rfl
  | inst c fs => obtain ⟨_, _, _, e, _⟩ := x; rw [e]; rfl
theorem Good.live {C : Cx} {envs : Vo} {σ : St} {ow : Nat → Option Nat} {s : Shared} (G : Good C envs σ ow s) {b : Addr} (x : Own σ ow b) : ∃ o, s.heap.get? b = some o := by
  rcases x with x | x
  · obtain ⟨o, e⟩ := Option.isSome_iff_exists.mp x
    exact Option.isSome_iff_exists.mp (G.store b o e).live
  · obtain ⟨a, e⟩ := Option.isSome_iff_exists.mp x
    exact Option.isSome_iff_exists.mp (G.parts b a e).2.2
theorem Good.ownBase {C : Cx} {envs : Vo} {σ : St} {ow : Nat → Option Nat} {s : Shared} (G : Good C envs σ ow s) {b : Addr} (x : Own σ ow b) : C.base.get? b = Option.none := by
  rcases x with x | x
  · exact G.fresh b x
  · obtain ⟨a, e⟩ := Option.isSome_iff_exists.mp x
    exact (G.parts b a e).2.1
structure Stp (fs : List Addr) (O O' : Nat → Prop) (s s' : Shared) : Prop where
  keep : ∀ b o, s.heap.get? b = some o → ¬ O b → b ∉ fs → s'.heap.get? b = some o
  frm : ∀ b o, s.heap.get? b = some o → b ∈ fs → ∃ sl, s'.heap.get? b = some { o with slots := sl }
  grow : ∀ b, O b → O' b
  fresh : ∀ b, O' b → O b ∨ s.heap.get? b = Option.none
  gens : s'.gens = s.gens
  drawn : s'.drawn = s.drawn
  os : s'.os = s.os
theorem Stp.refl (fs : List Addr) (O : Nat → Prop) (s : Shared) : Stp fs O O s s := ⟨fun _ _ e _ _ => e, fun _ o e _ => ⟨o.slots, e⟩, fun _ x => x, fun _ x => .inl x, rfl, rfl, rfl⟩
theorem Stp.tk {fs : List Addr} {O O' : Nat → Prop} {s s' : Shared} (x : Stp fs O O' s s') (t : Nat) : Stp fs O O' s { s' with toks := t } := ⟨x.keep, x.frm, x.grow, x.fresh, x.gens, x.drawn, x.os⟩
theorem Stp.trans {fs : List Addr} {O₁ O₂ O₃ : Nat → Prop} {s₁ s₂ s₃ : Shared} (x : Stp fs O₁ O₂ s₁ s₂) (y : Stp fs O₂ O₃ s₂ s₃) : Stp fs O₁ O₃ s₁ s₃ where
  keep := fun b o e n m => y.keep b o (x.keep b o e n m) (fun q => (x.fresh b q).elim n fun z => by rw [e] at z; cases z) m
  frm := fun b o e m => by
    obtain ⟨sl, e1⟩ := x.frm b o e m
    obtain ⟨sl', e2⟩ := y.frm b _ e1 m
    exact ⟨sl', e2⟩
  grow := fun b z => y.grow b (x.grow b z)
  fresh := fun b z => by
    by_cases q : O₁ b
    · exact .inl q
    · refine .inr ?_
      rcases y.fresh b z with z | z
      · exact (x.fresh b z).elim (fun w => absurd w q) id
      · cases e : s₁.heap.get? b with
        | none => rfl
        | some o =>
          by_cases m : b ∈ fs
          · obtain ⟨sl, e1⟩ := x.frm b o e m
            rw [e1] at z; cases z
          · rw [x.keep b o e q m] at z; cases z
  gens := y.gens.trans x.gens
  drawn := y.drawn.trans x.drawn
  os := y.os.trans x.os
theorem Stp.kp {fs zs : List Addr} {O O' : Nat → Prop} {s s' : Shared} (x : Stp fs O O' s s') (hs : ∀ b ∈ fs, b ∈ zs) : Kp (fun b => O b ∨ b ∈ zs) s.heap s'.heap := fun b o e n => x.keep b o e (fun q => n (.inl q)) fun q => n (.inr (hs b q))
theorem Stp.zg {fs zs : List Addr} {O O' : Nat → Prop} {s s' : Shared} (x : Stp fs O O' s s') : Zg (fun b => O b ∨ b ∈ zs) (fun b => O' b ∨ b ∈ zs) s.heap := fun b q => by
  rcases q with q | q
  · exact (x.fresh b q).imp .inl id
  · exact .inl (.inr q)
theorem Stp.vr {C : Cx} {envs : Vo} {σ σ' : St} {ow ow' : Nat → Option Nat} {s s' : Shared} (x : Stp (frs envs) (Own σ ow) (Own σ' ow') s s') {v : AV} {u : Value} (r : VR C (Zs σ ow (zss envs)) s.heap v u) : VR C (Zs σ' ow' (zss envs)) s'.heap v u := r.kp (x.kp envs.sub) x.zg
theorem Stp.vrs {C : Cx} {envs : Vo} {σ σ' : St} {ow ow' : Nat → Option Nat} {s s' : Shared} (x : Stp (frs envs) (Own σ ow) (Own σ' ow') s s') {v : List AV} {u : List Value} (r : VRs C (Zs σ ow (zss envs)) s.heap v u) : VRs C (Zs σ' ow' (zss envs)) s'.heap v u := r.kp (x.kp envs.sub) x.zg
def LoadsAt (env : Env) (O : Nat → Prop) (h : Heap) (x : Str) (val : Value) : Prop :=
  (env.kindOf x = some .local ∧ ∃ m, h.Ns env.locals m ∧ m x = some val) ∨
  ∃ c, (env.kindOf x = some .cell ∨ env.kindOf x = some .free) ∧ env.cells.lookup x = some c ∧ h.IsCell c (some val) ∧ ¬ O c
structure LocOk (C : Cx) (env : Env) (nms : List Str) (fs : List Addr) (O : Nat → Prop) (h : Heap) (ρ : Loc) : Prop where
  kind : env.scope.kind = .function
  glob : env.globals = mainGlobals
  blt : env.builtins = builtinsNs
  offL : ¬ O env.locals
  val : ∀ i v, getL ρ i = some v → ∃ x val, nms[i]? = some x ∧ VR C (fun b => O b ∨ b ∈ fs) h v val ∧ LoadsAt env O h x val
theorem Ns.slots {h h' : Heap} {a : Addr} {m : Str → Option Value} (k : ∀ o, h.get? a = some o → ∃ sl, h'.get? a = some { o with slots := sl }) (x : h.Ns a m) : h'.Ns a m := by
  obtain ⟨o, es, ep, ho, hd, r⟩ := x
  obtain ⟨sl, e⟩ := k o ho
  exact ⟨_, es, ep, e, hd, r⟩
theorem Stp.up {fs : List Addr} {O O' : Nat → Prop} {s s' : Shared} (x : Stp fs O O' s s') {b : Addr} (n : ¬ O b) (o : Obj) (e : s.heap.get? b = some o) : ∃ sl, s'.heap.get? b = some { o with slots := sl } := by
  by_cases m : b ∈ fs
  · exact x.frm b o e m
  · exact ⟨o.slots, x.keep b o e n m⟩
theorem LocOk.stp {C : Cx} {env : Env} {nms : List Str} {envs : Vo} {O O' : Nat → Prop} {s s' : Shared} {ρ : Loc} (x : Stp (frs envs) O O' s s') (l : LocOk C env nms (zss envs) O s.heap ρ) (lv : ∃ o, s.heap.get? env.locals = some o) : LocOk C env nms (zss envs) O' s'.heap ρ where
  kind := l.kind
  glob := l.glob
  blt := l.blt
  offL := fun q => (x.fresh _ q).elim l.offL fun z => by obtain ⟨o, e⟩ := lv; rw [e] at z; cases z
  val := fun i v e => by
    obtain ⟨y, val, a, r, b⟩ := l.val i v e
    refine ⟨y, val, a, r.kp (x.kp envs.sub) x.zg, ?_⟩
    rcases b with ⟨k, m, hn, hm⟩ | ⟨c, k, hc, hv, hz⟩
    · exact .inl ⟨k, m, Ns.slots (x.up l.offL) hn, hm⟩
    · obtain ⟨o, e, d⟩ := hv
      obtain ⟨sl, e'⟩ := x.up hz o e
      refine .inr ⟨c, k, hc, ⟨_, e', d⟩, fun q => (x.fresh _ q).elim hz fun z => by rw [e] at z; cases z⟩
end Ap
end
section
set_option Elab.async false
set_option linter.unusedVariables false
set_option linter.unusedSimpArgs false
namespace Ap
open PySem PySem.Calls PyProof.Rows
section
variable {C : Cx} {envs : Vo} {σ : St} {ow : Nat → Option Nat} {s : Shared}
theorem Good.tk (G : Good C envs σ ow s) (t : Nat) : Good C envs σ ow { s with toks := t } := ⟨G.stays, G.frames, G.apart, G.mem, G.sub, G.store, G.parts, G.fresh, G.off, G.gens⟩
theorem Stp.toks {fs : List Addr} {O : Nat → Prop} (t : Nat) : Stp fs O O s { s with toks := t } := (Stp.refl fs O s).tk t
theorem ORep.kp {Z Z' : Nat → Prop} {ow ow' : Nat → Option Nat} {h h' : Heap} {a : Addr} (k : Kp Z h h') (g : Zg Z Z' h) (ka : h'.get? a = h.get? a)
    (kd : ∀ dx, ow dx = some a → h'.get? dx = h.get? dx ∧ ow' dx = some a) {o : AObj} (r : ORep C Z ow h a o) : ORep C Z' ow' h' a o := by
  cases o with
  | list xs =>
    obtain ⟨vs, ⟨z, n, e⟩, x⟩ := r
    exact ⟨vs, ⟨z, n, ka.trans e⟩, x.kp k g⟩
  | dictI es =>
    obtain ⟨kvs, ⟨o, e1, ep, e, r⟩, z, x, y⟩ := r
    exact ⟨kvs, ⟨o, e1, ep, ka.trans e, r⟩, z, x, y.kp k g⟩
  | dictS es =>
    obtain ⟨kvs, ⟨o, e1, ep, e, r⟩, z, x, y⟩ := r
    exact ⟨kvs, ⟨o, e1, ep, ka.trans e, r⟩, z, x, y.kp k g⟩
  | inst c fs =>
    obtain ⟨o, dx, mA, e1, e2, e3, e4, e5, e6, e7, e8, r⟩ := r
    exact ⟨o, dx, mA, ka.trans e1, e2, e3, e4, e5, (kd dx e6).2, e7.at (fun o e => (kd dx e6).1.trans e), e8, r.kp k g⟩
theorem Good.ext (G : Good C envs σ ow s) {h' : Heap} (k : ∀ b o, s.heap.get? b = some o → h'.get? b = some o) (t : Nat) : Good C envs σ ow { s with heap := h', toks := t } where
  stays := fun b o e => k b o (G.stays b o e)
  frames := G.frames.of_keeps fun b o e _ => ⟨o, k b o e, rfl⟩
  apart := G.apart
  mem := fun b m => ⟨(G.mem b m).1, (G.mem b m).2.imp fun o e => k b o e⟩
  sub := G.sub
  store := fun a o e => by
    have x := G.store a o e
    obtain ⟨oa, ea⟩ := Option.isSome_iff_exists.mp x.live
    exact x.kp (fun b o e _ => k b o e) (Zg.refl _ _) (by rw [ea]; exact k a oa ea) fun dx hd => by
      obtain ⟨od, ed⟩ := Option.isSome_iff_exists.mp (G.parts dx a hd).2.2
      exact ⟨by rw [ed]; exact k dx od ed, hd⟩
  parts := fun b a e => ⟨(G.parts b a e).1, (G.parts b a e).2.1, by
    obtain ⟨od, ed⟩ := Option.isSome_iff_exists.mp (G.parts b a e).2.2
    rw [k b od ed]; rfl⟩
  fresh := G.fresh
  off := G.off
  gens := G.gens
theorem Stp.ext {fs : List Addr} {O : Nat → Prop} {h' : Heap} (k : ∀ b o, s.heap.get? b = some o → h'.get? b = some o) (t : Nat) : Stp fs O O s { s with heap := h', toks := t } :=
  ⟨fun b o e _ _ => k b o e, fun b o e _ => ⟨o.slots, k b o e⟩, fun _ x => x, fun _ x => .inl x, rfl, rfl, rfl⟩
theorem Good.new (G : Good C envs σ ow s) : σ s.heap.objs.size = Option.none ∧ ow s.heap.objs.size = Option.none ∧ s.heap.objs.size ∉ zss envs := by
  refine ⟨?_, ?_, fun m => ?_⟩
  · cases e : σ s.heap.objs.size with
    | none => rfl
    | some o =>
      obtain ⟨ob, q⟩ := G.live (b := s.heap.objs.size) (.inl (by rw [e]; rfl))
      exact absurd (Heap.lt_size q) (Nat.lt_irrefl _)
  · cases e : ow s.heap.objs.size with
    | none => rfl
    | some o =>
      obtain ⟨ob, q⟩ := G.live (b := s.heap.objs.size) (.inr (by rw [e]; rfl))
      exact absurd (Heap.lt_size q) (Nat.lt_irrefl _)
  · obtain ⟨_, o, e⟩ := G.mem _ m
    exact absurd (Heap.lt_size e) (Nat.lt_irrefl _)
theorem Good.newZ (G : Good C envs σ ow s) : ¬ Zs σ ow (zss envs) s.heap.objs.size := by
  obtain ⟨a, b, c⟩ := G.new
  rintro ((q | q) | q)
  · rw [a] at q; cases q
  · rw [b] at q; cases q
  · exact c q
theorem upd_self (σ : St) (a : Nat) (o : AObj) : upd σ a o a = some o := if_pos rfl
theorem upd_ne (σ : St) {a b : Nat} (o : AObj) (h : b ≠ a) : upd σ a o b = σ b := if_neg h
theorem own_upd {a b : Nat} {o : AObj} (h : Own (upd σ a o) ow b) : Own σ ow b ∨ b = a := by
  by_cases e : b = a
  · exact .inr e
  · rcases h with h | h
    · rw [upd_ne σ o e] at h; exact .inl (.inl h)
    · exact .inl (.inr h)
theorem own_up {a b : Nat} {o : AObj} (h : Own σ ow b) : Own (upd σ a o) ow b := by
  by_cases e : b = a
  · subst e; exact .inl (by rw [upd_self]; rfl)
  · rcases h with h | h
    · exact .inl (by rw [upd_ne σ o e]; exact h)
    · exact .inr h
theorem zs_upd {a : Nat} {o : AObj} {fs : List Addr} {h : Heap} (n : h.get? a = Option.none ∨ Own σ ow a) : Zg (Zs σ ow fs) (Zs (upd σ a o) ow fs) h := fun b q => by
  rcases q with q | q
  · rcases own_upd q with q | q
    · exact .inl (.inl q)
    · subst q
      rcases n with n | n
      · exact .inr n
      · exact .inl (.inl n)
  · exact .inl (.inr q)
theorem Good.alloc (G : Good C envs σ ow s) {ob : Obj} {o : AObj} {h' : Heap} (k : ∀ b o, s.heap.get? b = some o → h'.get? b = some o) {a : Addr} (na : s.heap.get? a = Option.none) (nf : a ∉ zss envs)
    (live : h'.get? a = some ob) (rep : ORep C (Zs (upd σ a o) ow (zss envs)) ow h' a o) (t : Nat) : Good C envs (upd σ a o) ow { s with heap := h', toks := t } where
  stays := fun b o e => k b o (G.stays b o e)
  frames := G.frames.of_keeps fun b o e _ => ⟨o, k b o e, rfl⟩
  apart := G.apart
  mem := fun b m => ⟨(G.mem b m).1, (G.mem b m).2.imp fun o e => k b o e⟩
  sub := G.sub
  store := fun b o' e => by
    by_cases q : b = a
    · subst q
      rw [upd_self] at e
      cases e
      exact rep
    · rw [upd_ne σ o q] at e
      have x := G.store b o' e
      obtain ⟨oa, ea⟩ := Option.isSome_iff_exists.mp x.live
      exact x.kp (fun b o e _ => k b o e) (zs_upd (.inl na)) (by rw [ea]; exact k b oa ea) fun dx hd => by
        obtain ⟨od, ed⟩ := Option.isSome_iff_exists.mp (G.parts dx b hd).2.2
        exact ⟨by rw [ed]; exact k dx od ed, hd⟩
  parts := fun b c e => by
    obtain ⟨x1, x2, x3⟩ := G.parts b c e
    obtain ⟨od, ed⟩ := Option.isSome_iff_exists.mp x3
    refine ⟨?_, x2, by show (h'.get? b).isSome = true; rw [k b od ed]; rfl⟩
    rw [upd_ne σ o (fun q => by subst q; rw [na] at ed; cases ed)]
    exact x1
  fresh := fun b e => by
    by_cases q : b = a
    · subst q
      cases z : C.base.get? b with
      | none => rfl
      | some o => rw [G.stays b o z] at na; cases na
    · rw [upd_ne σ o q] at e; exact G.fresh b e
  off := fun L hL q => by
    rcases own_upd q with q | q
    · exact G.off L hL q
    · exact nf (q ▸ hL)
  gens := G.gens
theorem Stp.alloc {fs : List Addr} {o : AObj} {h' : Heap} (k : ∀ b o, s.heap.get? b = some o → h'.get? b = some o) {a : Addr} (na : s.heap.get? a = Option.none) (t : Nat) : Stp fs (Own σ ow) (Own (upd σ a o) ow) s { s with heap := h', toks := t } :=
  ⟨fun b o e _ _ => k b o e, fun b o e _ => ⟨o.slots, k b o e⟩, fun _ x => own_up x, fun b x => (own_upd x).imp id fun q => by subst q; exact na, rfl, rfl, rfl⟩
theorem Good.change (G : Good C envs σ ow s) {o₀ o : AObj} {h' : Heap} {a d : Addr} (ha : σ a = some o₀) (hd : d = a ∨ ow d = some a) (k : ∀ b ob, b ≠ d → s.heap.get? b = some ob → h'.get? b = some ob) (kl : (h'.get? d).isSome = true)
    (rep : ORep C (Zs (upd σ a o) ow (zss envs)) ow h' a o) (t : Nat) : Good C envs (upd σ a o) ow { s with heap := h', toks := t } := by
  have hO : Own σ ow d := by
    rcases hd with rfl | hd
    · exact .inl (by rw [ha]; rfl)
    · exact .inr (by rw [hd]; rfl)
  have hK : Kp (Zs σ ow (zss envs)) s.heap h' := fun b ob e n => k b ob (fun q => n (.inl (q ▸ hO))) e
  have hE : ∀ b, (s.heap.get? b).isSome = true → b ≠ d → h'.get? b = s.heap.get? b := fun b hl nd => by
    obtain ⟨ob, e⟩ := Option.isSome_iff_exists.mp hl
    rw [e]; exact k b ob nd e
  refine ⟨fun b ob e => ?_, ?_, G.apart, fun b m => ?_, G.sub, fun b o' e => ?_, fun b c e => ?_, fun b e => ?_, fun L hL q => ?_, G.gens⟩
  · exact k b ob (fun q => by subst q; rw [G.ownBase hO] at e; cases e) (G.stays b ob e)
  · have : ∀ l : List Env, (∀ L ∈ l.filterMap (·.frame), L ≠ d) → s.heap.FunFrames C.base l → h'.FunFrames C.base l := by
      intro l
      induction l with
      | nil => intro _ _; trivial
      | cons env r ih =>
        rintro hn ⟨hk, ⟨L, ob, hf, hb, ho, hdt⟩, hr⟩
        refine ⟨hk, ⟨L, ob, hf, hb, ?_, hdt⟩, ih (fun L hL => hn L ?_) hr⟩
        · exact k L ob (hn L (by simp [List.filterMap_cons, hf])) ho
        · rw [List.filterMap_cons, hf]; exact List.mem_cons_of_mem _ hL
    exact this envs.l (fun L hL q => by
      obtain ⟨env, he, hf⟩ := List.mem_filterMap.mp hL
      exact G.off L (envs.sub _ (G.sub env he L hf)) (q ▸ hO)) G.frames
  · obtain ⟨x, ob, e⟩ := G.mem b m
    exact ⟨x, ob, k b ob (fun q => G.off b m (q ▸ hO)) e⟩
  · by_cases q : b = a
    · subst q
      rw [upd_self] at e
      cases e
      exact rep
    · rw [upd_ne σ o q] at e
      have nb : b ≠ d := fun z => by
        subst z
        rcases hd with hd | hd
        · exact q hd
        · rw [(G.parts _ _ hd).1] at e; cases e
      exact (G.store b o' e).kp hK (zs_upd (.inr (.inl (by rw [ha]; rfl)))) (hE b (G.store b o' e).live nb) fun dx hdx => ⟨hE dx (G.parts _ _ hdx).2.2 (fun z => by
        subst z
        rcases hd with hd | hd
        · subst hd; rw [(G.parts _ _ hdx).1] at ha; cases ha
        · rw [hdx] at hd; cases hd; exact q rfl), hdx⟩
  · obtain ⟨x1, x2, x3⟩ := G.parts b c e
    refine ⟨?_, x2, ?_⟩
    · rw [upd_ne σ o (fun q => by subst q; rw [x1] at ha; cases ha)]; exact x1
    · show (h'.get? b).isSome = true
      by_cases q : b = d
      · subst q; exact kl
      · rw [hE b x3 q]; exact x3
  · by_cases q : b = a
    · subst q; exact G.fresh b (by rw [ha]; rfl)
    · rw [upd_ne σ o q] at e; exact G.fresh b e
  · rcases own_upd q with q | q
    · exact G.off L hL q
    · subst q; exact G.off L hL (.inl (by rw [ha]; rfl))
theorem Stp.change (G : Good C envs σ ow s) {o₀ o : AObj} {h' : Heap} {a d : Addr} (ha : σ a = some o₀) (hd : d = a ∨ ow d = some a) (k : ∀ b ob, b ≠ d → s.heap.get? b = some ob → h'.get? b = some ob) (t : Nat) : Stp (frs envs) (Own σ ow) (Own (upd σ a o) ow) s { s with heap := h', toks := t } := by
  have hO : Own σ ow d := by
    rcases hd with rfl | hd
    · exact .inl (by rw [ha]; rfl)
    · exact .inr (by rw [hd]; rfl)
  refine ⟨fun b ob e n _ => k b ob (fun q => n (q ▸ hO)) e, fun b ob e m => ⟨ob.slots, k b ob (fun q => G.off b (envs.sub _ m) (q ▸ hO)) e⟩, fun _ x => own_up x, fun b x => .inl ?_, rfl, rfl, rfl⟩
  rcases own_upd x with q | q
  · exact q
  · subst q; exact .inl (by rw [ha]; rfl)
end
end Ap
end
section
set_option Elab.async false
set_option linter.unusedVariables false
set_option linter.unusedSimpArgs false
namespace Ap
open PySem PySem.Calls PyProof.Rows
def ExO (h : Heap) (e : Addr) (cls : Value) (t : Option (Addr × Value)) : Prop :=
  ∃ oe vs a0, h.get? e = some oe ∧ oe.dict = Option.none ∧ oe.cls = cls ∧ oe.data = .fields vs ∧ vs[0]? = some a0 ∧ vs[2]? = some .none ∧
    (match t with
    | Option.none => vs[1]? = some .none
    | some (T, fl) => vs[1]? = some (.ref T) ∧ T ≠ e ∧ ∃ oT ts, h.get? T = some oT ∧ oT.data = .fields ts ∧ ts[3]? = some fl)
def ThrA (C : Cx) (ok : Value → Prop) (Z : Nat → Prop) (h₀ : Heap) (e : Addr) (c : Nat) (h : Heap) : Prop :=
  (h₀.get? e = Option.none ∧ ¬ Z e ∧ c ∈ C.xcs) ∧ ∃ t, ExO h e (.ref (C.clsA c)) t ∧ ∀ T fl, t = some (T, fl) → ok fl ∧ h₀.get? T = Option.none ∧ ¬ Z T
abbrev Thr (C : Cx) (Z : Nat → Prop) (h₀ : Heap) (e : Addr) (c : Nat) (h : Heap) : Prop := ThrA C (· = .none) Z h₀ e c h
abbrev ThrS (C : Cx) (L : Addr) (Z : Nat → Prop) (h₀ : Heap) (e : Addr) (c : Nat) (h : Heap) : Prop := ThrA C (fun v => v = .none ∨ v = rawInt L) Z h₀ e c h
theorem ThrA.mono {C : Cx} {ok ok' : Value → Prop} {Z Z' : Nat → Prop} {h₀ h : Heap} {e : Addr} {c : Nat} (a : ∀ v, ok v → ok' v) (b : ∀ a, Z' a → Z a) (x : ThrA C ok Z h₀ e c h) : ThrA C ok' Z' h₀ e c h := by
  obtain ⟨⟨n1, n2, n3⟩, t, x1, x2⟩ := x
  exact ⟨⟨n1, fun q => n2 (b _ q), n3⟩, t, x1, fun T fl e => ⟨a _ (x2 T fl e).1, (x2 T fl e).2.1, fun q => (x2 T fl e).2.2 (b _ q)⟩⟩
def HOk (A : Around) (q : Bool) (Z : Nat → Prop) (h : Heap) : Prop :=
  A.handled = Option.none ∨ q = true ∧ ∃ e o vs, A.handled = some (.ref e) ∧ h.get? e = some o ∧ o.data = .fields vs ∧ vs[2]? = some .none ∧ ¬ Z e
structure Ok (C : Cx) (A : Around) (q : Bool) (env : Env) (envs : Vo) (nms : List Str) (ρ : Loc) (σ : St) (ow : Nat → Option Nat) (s : Shared) : Prop where
  good : Good C envs σ ow s
  loc : LocOk C env nms (zss envs) (Own σ ow) s.heap ρ
  hnd : HOk A q (Zs σ ow (zss envs)) s.heap
  live : ∃ o, s.heap.get? env.locals = some o
theorem HOk.stp {A : Around} {q : Bool} {envs : Vo} {σ σ' : St} {ow ow' : Nat → Option Nat} {s s' : Shared} (x : Stp (frs envs) (Own σ ow) (Own σ' ow') s s') (h : HOk A q (Zs σ ow (zss envs)) s.heap) : HOk A q (Zs σ' ow' (zss envs)) s'.heap := by
  rcases h with h | ⟨hq, e, o, vs, h1, h2, h3, h4, h5⟩
  · exact .inl h
  · exact .inr ⟨hq, e, o, vs, h1, x.kp envs.sub _ _ h2 h5, h3, h4, x.zg.not h2 h5⟩
theorem Ok.stp {C : Cx} {A : Around} {q : Bool} {env : Env} {envs : Vo} {nms : List Str} {ρ : Loc} {σ σ' : St} {ow ow' : Nat → Option Nat} {s s' : Shared} (k : Ok C A q env envs nms ρ σ ow s)
    (x : Stp (frs envs) (Own σ ow) (Own σ' ow') s s') (g : Good C envs σ' ow' s') : Ok C A q env envs nms ρ σ' ow' s' :=
  ⟨g, k.loc.stp x k.live, k.hnd.stp x, by
    obtain ⟨o, e⟩ := k.live
    obtain ⟨sl, e'⟩ := x.up k.loc.offL o e
    exact ⟨_, e'⟩⟩
def KV (C : Cx) (envs : Vo) (σ : St) (ow : Nat → Option Nat) (s : Shared) {α β : Type} (R : (Nat → Prop) → Heap → α → β → Prop) (Qa : α → St → Prop) (Q : β → Shared → Prop) : Prop :=
  ∀ v av σ' ow' s', Qa av σ' → Stp (frs envs) (Own σ ow) (Own σ' ow') s s' → Good C envs σ' ow' s' → R (Zs σ' ow' (zss envs)) s'.heap av v → Q v s'
def KX (C : Cx) (envs : Vo) (σ : St) (ow : Nat → Option Nat) (s : Shared) (Ea : PE) (E : Value → Shared → Prop) : Prop :=
  ∀ e c σ' ow' s', Ea c σ' → Stp (frs envs) (Own σ ow) (Own σ' ow') s s' → Good C envs σ' ow' s' → Thr C (Zs σ' ow' (zss envs)) s.heap e c s'.heap → E (.ref e) s'
def Snd (C : Cx) (A : Around) (q : Bool) (env : Env) (envs : Vo) (nms : List Str) (ρ : Loc) {α β : Type} (R : (Nat → Prop) → Heap → α → β → Prop) (t : Sem β) (W : St → (α → St → Prop) → PE → Prop) : Prop :=
  ∀ σ ow s Qa Ea Q E, W σ Qa Ea → Ok C A q env envs nms ρ σ ow s → KV C envs σ ow s R Qa Q → KX C envs σ ow s Ea E → wpAny (model C.prog C.w) A t Q E s
abbrev RV (C : Cx) (Z : Nat → Prop) (h : Heap) (av : AV) (v : Value) : Prop := VR C Z h av v
abbrev RB (C : Cx) (_ : Nat → Prop) (_ : Heap) (a b : Bool) : Prop := a = b
abbrev RL (C : Cx) (Z : Nat → Prop) (h : Heap) (av : List AV) (v : List Value) : Prop := VRs C Z h av v
section
variable {C : Cx} {A : Around} {env : Env} {envs : Vo} {nms : List Str} {ρ : Loc}
theorem ThrA.up {ok : Value → Prop} {Z : Nat → Prop} {h₀ h₁ h : Heap} {e : Addr} {c : Nat} (k : ∀ b, h₁.get? b = Option.none → h₀.get? b = Option.none) (x : ThrA C ok Z h₁ e c h) : ThrA C ok Z h₀ e c h := by
  obtain ⟨⟨n1, n2⟩, t, x1, x2⟩ := x
  exact ⟨⟨k _ n1, n2⟩, t, x1, fun T fl e => ⟨(x2 T fl e).1, k _ (x2 T fl e).2.1, (x2 T fl e).2.2⟩⟩
theorem Stp.back {fs : List Addr} {σ σ' : St} {ow ow' : Nat → Option Nat} {s s' : Shared} (x : Stp fs (Own σ ow) (Own σ' ow') s s') {envs : Vo} (hf : fs = frs envs) (g' : Good C envs σ' ow' s') (b : Addr) (n : s'.heap.get? b = Option.none) : s.heap.get? b = Option.none := by
  cases e : s.heap.get? b with
  | none => rfl
  | some o =>
    exfalso
    by_cases q : Own σ ow b
    · obtain ⟨ob, z⟩ := g'.live (x.grow b q)
      rw [n] at z; cases z
    · obtain ⟨sl, z⟩ := x.up q o e
      rw [n] at z; cases z
theorem KX.stp {σ σ' : St} {ow ow' : Nat → Option Nat} {s s' : Shared} {Ea : PE} {E : Value → Shared → Prop} (x : Stp (frs envs) (Own σ ow) (Own σ' ow') s s') (g : Good C envs σ' ow' s') (k : KX C envs σ ow s Ea E) : KX C envs σ' ow' s' Ea E :=
  fun e c σ'' ow'' s'' a y g' t => k e c σ'' ow'' s'' a (x.trans y) g' (ThrA.up (x.back rfl g) t)
theorem KV.stp {α β : Type} {R : (Nat → Prop) → Heap → α → β → Prop} {Qa : α → St → Prop} {Q : β → Shared → Prop} {σ σ' : St} {ow ow' : Nat → Option Nat} {s s' : Shared} (x : Stp (frs envs) (Own σ ow) (Own σ' ow') s s') (k : KV C envs σ ow s R Qa Q) : KV C envs σ' ow' s' R Qa Q :=
  fun v av σ'' ow'' s'' a y g' r => k v av σ'' ow'' s'' a (x.trans y) g' r
theorem KV.val {σ : St} {ow : Nat → Option Nat} {s : Shared} {Qa : PQ} {Q : Value → Shared → Prop} (g : Good C envs σ ow s) (k : KV C envs σ ow s (RV C) Qa Q) {av : AV} {v : Value} (t : Nat) (a : Qa av σ) (r : VR C (Zs σ ow (zss envs)) s.heap av v) : Q v { s with toks := t } :=
  k v av σ ow _ a (Stp.toks t) (g.tk t) r
theorem KV.here {α β : Type} {R : (Nat → Prop) → Heap → α → β → Prop} {σ : St} {ow : Nat → Option Nat} {s : Shared} {Qa : α → St → Prop} {Q : β → Shared → Prop} (g : Good C envs σ ow s) (k : KV C envs σ ow s R Qa Q) {av : α} {v : β} (a : Qa av σ) (r : R (Zs σ ow (zss envs)) s.heap av v) : Q v s :=
  k v av σ ow s a (Stp.refl _ _ _) g r
theorem KV.pushed {σ : St} {ow : Nat → Option Nat} {s : Shared} {Qa : PQ} {Q : Value → Shared → Prop} (g : Good C envs σ ow s) (k : KV C envs σ ow s (RV C) Qa Q) {av : AV} {v : Value} {o : Obj} (t : Nat) (a : Qa av σ)
    (r : VR C (Zs σ ow (zss envs)) (s.heap.push o) av v) : Q v { s with heap := s.heap.push o, toks := t } :=
  have q : ∀ b o', s.heap.get? b = some o' → (s.heap.push o).get? b = some o' := fun _ _ e => Heap.get?_push_of_some o e
  k v av σ ow _ a (Stp.ext q t) (g.ext q t) r
theorem VR.push {σ : St} {ow : Nat → Option Nat} {s : Shared} {o : Obj} {av : AV} {v : Value} (r : VR C (Zs σ ow (zss envs)) s.heap av v) : VR C (Zs σ ow (zss envs)) (s.heap.push o) av v :=
  r.kp (fun _ _ e _ => Heap.get?_push_of_some o e) (Zg.refl _ _)
theorem VRs.push {σ : St} {ow : Nat → Option Nat} {s : Shared} {o : Obj} {av : List AV} {v : List Value} (r : VRs C (Zs σ ow (zss envs)) s.heap av v) : VRs C (Zs σ ow (zss envs)) (s.heap.push o) av v :=
  r.kp (fun _ _ e _ => Heap.get?_push_of_some o e) (Zg.refl _ _)
theorem mkL_snd {σ : St} {ow : Nat → Option Nat} {s : Shared} {Qa : PQ} {Q : Value → Shared → Prop} (g : Good C envs σ ow s) (k : KV C envs σ ow s (RV C) Qa Q) {own : Bool} {xs : List AV} {vs : List Value} {n : Nat} (t : Nat)
    (hz : vs.length ≤ 16777216) (w : mkL own xs σ Qa) (r : VRs C (Zs σ ow (zss envs)) s.heap xs vs) : Q (.ref s.heap.objs.size) { s with heap := s.heap.push { cls := .type "list", data := .seq vs.toArray n }, toks := t } := by
  have q : ∀ b o', s.heap.get? b = some o' → (s.heap.push { cls := .type "list", data := .seq vs.toArray n }).get? b = some o' := fun _ _ e => Heap.get?_push_of_some _ e
  have li : IsL (s.heap.push { cls := .type "list", data := .seq vs.toArray n }) s.heap.objs.size vs := ⟨hz, n, Heap.get?_push_size _ rfl⟩
  have na : s.heap.get? s.heap.objs.size = Option.none := by
    cases e : s.heap.get? s.heap.objs.size with
    | none => rfl
    | some o => exact absurd (Heap.lt_size e) (Nat.lt_irrefl _)
  cases own with
  | false => exact k.pushed g t w (.ilist li g.newZ (r.kp (fun _ _ e _ => q _ _ e) (Zg.refl _ _)))
  | true =>
    refine k _ _ _ ow _ (w s.heap.objs.size g.new.1) (Stp.alloc q na t) (g.alloc (o := .list xs) q na g.new.2.2 (Heap.get?_push_size _ rfl) ⟨vs, li, r.kp (fun _ _ e _ => q _ _ e) (zs_upd (.inl na))⟩ t) (.obj _)
end
end Ap
end
section
set_option Elab.async false
set_option linter.unusedVariables false
set_option linter.unusedSimpArgs false
namespace Ap
open PySem PySem.Calls PyProof.Rows
def onII (f : Int → Int → St → PQ → Prop) : O2 := fun a b σ Q => match a with
  | .int x => (match b with
    | .int y => f x y σ Q
    | _ => False)
  | _ => False
def oAdd : O2 := onII fun x y σ Q => Q (.int (x + y)) σ
def oSub : O2 := onII fun x y σ Q => Q (.int (x - y)) σ
def oMul : O2 := onII fun x y σ Q => (x.natAbs < 2 ^ 63 ∨ y.natAbs < 2 ^ 63) ∧ Q (.int (x * y)) σ
def oMod : O2 := onII fun x y σ Q => y ≠ 0 ∧ Q (.int (x.fmod y)) σ
def oFdiv : O2 := onII fun x y σ Q => (y ≠ 0 ∧ y.natAbs < 1073741824) ∧ Q (.int (x.fdiv y)) σ
def oAddS : O2 := fun a b σ Q => match a with
  | .str x => (match b with
    | .str y => x.length + y.length ≤ 1000000 ∧ Q (.str (x ++ y)) σ
    | _ => False)
  | _ => False
def oMulS : O2 := fun a b σ Q => match a with
  | .str x => (match b with
    | .int n => (0 ≤ n ∧ n ≤ 1000 ∧ x.length ≤ 1000) ∧ Q (.str (Txt.mul x n)) σ
    | _ => False)
  | _ => False
def oIdxL : O2 := fun a b σ Q => match a with
  | .ilist xs => (match b with
    | .int i => 0 ≤ i ∧ lookV Q σ xs[i.toNat]?
    | _ => False)
  | _ => False
def oIdxT : O2 := fun a b σ Q => match a with
  | .tup xs => (match b with
    | .int i => 0 ≤ i ∧ lookV Q σ xs[i.toNat]?
    | _ => False)
  | _ => False
def oSl (own : Bool) (lo hi : Nat) : O1 := fun v σ Q => match v with
  | .ilist xs => mkL own ((xs.take hi).drop lo) σ Q
  | _ => False
def onIIc (f : Int → Int → Bool) : OC := fun a b σ K => match a with
  | .int x => (match b with
    | .int y => K (f x y)
    | _ => False)
  | _ => False
def cLt : OC := onIIc fun x y => decide (x < y)
def cLe : OC := onIIc fun x y => decide (x ≤ y)
def cGe : OC := onIIc fun x y => decide (x ≥ y)
def oLen : ON := fun vs σ Q => ∃ xs, vs = [.ilist xs] ∧ Q (.int xs.length) σ
def oMax2 : ON := fun vs σ Q => ∃ a b, vs = [.int a, .int b] ∧ Q (.int (if b > a then b else a)) σ
def oIntB : ON := fun vs σ Q => ∃ b, vs = [.bool b] ∧ Q (.int (if b then 1 else 0)) σ
def BinSnd (C : Cx) (op : Operator) (f : O2) : Prop :=
  ∀ (A : Around) (envs : Vo) σ ow s (Qa : PQ) (Q : Value → Shared → Prop) E va vb a b, Good C envs σ ow s → KV C envs σ ow s (RV C) Qa Q → VR C (Zs σ ow (zss envs)) s.heap va a → VR C (Zs σ ow (zss envs)) s.heap vb b → f va vb σ Qa → wpAny (model C.prog C.w) A (binaryOp op a b) Q E s
def IdxSnd (C : Cx) (f : O2) : Prop :=
  ∀ (A : Around) (envs : Vo) σ ow s (Qa : PQ) (Q : Value → Shared → Prop) E va vb a b value slice, (∀ o i, subscripted slice false o i = operate [o, i] (getItem o i)) → Good C envs σ ow s → KV C envs σ ow s (RV C) Qa Q → VR C (Zs σ ow (zss envs)) s.heap va a → VR C (Zs σ ow (zss envs)) s.heap vb b → f va vb σ Qa →
    wpAny (model C.prog C.w) A (subscriptTail value slice a b) Q E s
def CmpSnd (C : Cx) (op : CmpOp) (f : OC) : Prop :=
  ∀ (A : Around) (envs : Vo) σ ow s (K : Bool → Prop) (Q : Value → Shared → Prop) E va vb a b, A.units + 64 < cLine → Good C envs σ ow s → VR C (Zs σ ow (zss envs)) s.heap va a → VR C (Zs σ ow (zss envs)) s.heap vb b → f va vb σ K → (∀ r t, K r → Q (.bool r) { s with toks := t }) →
    wpAny (model C.prog C.w) A (compareOp op a b) Q E s
def BiSnd (C : Cx) (q : Bool) (fv : Value) (f : ON) : Prop :=
  ∀ (A : Around) (envs : Vo) σ ow s (Qa : PQ) (Q : Value → Shared → Prop) E vs vals, (q = false → A.handled = Option.none) → Good C envs σ ow s → KV C envs σ ow s (RV C) Qa Q → VRs C (Zs σ ow (zss envs)) s.heap vs vals → f vs σ Qa → wpAny (model C.prog C.w) A (call fv vals) Q E s
section
variable {C : Cx}
theorem BinSnd.ii {op : Operator} {f : Int → Int → St → PQ → Prop} (h : ∀ (A : Around) (envs : Vo) σ ow s (Qa : PQ) (Q : Value → Shared → Prop) E x y t u, Good C envs σ ow s → KV C envs σ ow s (RV C) Qa Q → f x y σ Qa → wpAny (model C.prog C.w) A (binaryOp op (.int x t) (.int y u)) Q E s) :
    BinSnd C op (onII f) := by
  intro A envs σ ow s Qa Q E va vb a b g k ra rb w
  cases ra <;> first | exact False.elim w | skip
  cases rb <;> first | exact False.elim w | skip
  exact h A envs σ ow s Qa Q E _ _ _ _ g k w
theorem bin_add : BinSnd C .Add oAdd := .ii fun A envs σ ow s Qa Q E x y t u g k w => add_int (k.val g _ w (.int _ _))
theorem bin_sub : BinSnd C .Sub oSub := .ii fun A envs σ ow s Qa Q E x y t u g k w => sub_int (k.val g _ w (.int _ _))
theorem bin_mul : BinSnd C .Mult oMul := .ii fun A envs σ ow s Qa Q E x y t u g k w => by
  refine mul_int (k.val g _ w.2 (.int _ _)) ?_
  rcases w.1 with h | h
  · exact IntMulOk.of_left (intBits_le_64 (by omega) (by omega))
  · exact IntMulOk.of_right (intBits_le_64 (by omega) (by omega))
theorem bin_mod : BinSnd C .Mod oMod := .ii fun A envs σ ow s Qa Q E x y t u g k w => mod_int' w.1 (k.val g _ w.2 (.int _ _))
theorem bin_fdiv : BinSnd C .FloorDiv oFdiv := .ii fun A envs σ ow s Qa Q E x y t u g k w => floordiv_int w.1.1 (k.val g _ w.2 (.int _ _)) (.inl (PyProof.noPylong_small w.1.2))
theorem strOk_append {x y : Str} (hx : PyData.strOk x = true) (hy : PyData.strOk y = true) : PyData.strOk (x ++ y) = true := by
  unfold PyData.strOk at *
  show (x.cps ++ y.cps).all _ = true
  rw [Array.all_append, hx, hy]; rfl
theorem strOk_mul {x : Str} (n : Int) (hx : PyData.strOk x = true) : PyData.strOk (Txt.mul x n) = true := by
  unfold Txt.mul
  split
  · simp [PyData.strOk, Str.empty]
  · split
    · exact hx
    · unfold PyData.strOk at *
      have : ∀ (k : Nat) (acc : Array Nat), acc.all (· < 1114112) = true → (List.foldl (fun a b => a ++ b) acc (List.replicate k x.cps)).all (· < 1114112) = true := by
        intro k
        induction k with
        | zero => intro acc h; exact h
        | succ k ih => intro acc h; rw [List.replicate_succ, List.foldl_cons]; exact ih _ (by rw [Array.all_append, h, hx]; rfl)
      exact this _ _ (by simp)
theorem mulStr_ok {x : Str} {n : Int} (h0 : 0 ≤ n) (h1 : n ≤ 1000) (h2 : x.length ≤ 1000) : MulOk x n := by
  have q : (x.length : Int) * n ≤ 1000000 := Int.le_trans (Int.mul_le_mul_of_nonneg_right (show (x.length : Int) ≤ 1000 by omega) h0) (by omega)
  refine ⟨by rw [Bool.or_eq_false_iff, decide_eq_false_iff_not, decide_eq_false_iff_not]; omega, fun h _ => ?_, fun h _ => ?_⟩
  · have : (x.length : Int) ≤ (2 ^ 63 - 1) / n := Int.le_ediv_of_mul_le (by omega) (by omega)
    omega
  · unfold Builtin.Str.tooLong sizeLine
    have e : ((x.length * n.toNat : Nat) : Int) = (x.length : Int) * n := by rw [Int.natCast_mul, Int.toNat_of_nonneg h0]
    exact decide_eq_false (by omega)
theorem bin_addS : BinSnd C .Add oAddS := by
  intro A envs σ ow s Qa Q E va vb a b g k ra rb w
  cases ra <;> first | exact False.elim w | skip
  cases rb <;> first | exact False.elim w | skip
  rename_i ok1 _ _ ok2
  exact add_str (fun t' tk => k.val g tk w.2 (.str _ _ (strOk_append ok1 ok2))) (by have := w.1; unfold sizeLine; omega)
theorem bin_mulS : BinSnd C .Mult oMulS := by
  intro A envs σ ow s Qa Q E va vb a b g k ra rb w
  cases ra <;> first | exact False.elim w | skip
  cases rb <;> first | exact False.elim w | skip
  rename_i ok1 _ _
  exact SB.mul (mulStr_ok w.1.1 w.1.2.1 w.1.2.2) fun t' tk => k.val g tk w.2 (.str _ _ (strOk_mul _ ok1))
theorem lookV_some {Q : PQ} {σ : St} {o : Option AV} (h : lookV Q σ o) : ∃ v, o = some v ∧ Q v σ := by
  cases o with
  | none => exact False.elim h
  | some v => exact ⟨v, rfl, h⟩
theorem seqIndex_nat {i : Int} {n : Nat} (h0 : 0 ≤ i) (h : i.toNat < n) : seqIndex? i n = some i.toNat := by
  unfold seqIndex?
  simp only [show ¬ (i < 0) by omega, if_false]
  rw [if_pos (by rw [Bool.and_eq_true, decide_eq_true_eq, decide_eq_true_eq]; omega)]
theorem idx_L : IdxSnd C oIdxL := by
  intro A envs σ ow s Qa Q E va vb a b value slice hp g k ra rb w
  cases ra <;> first | exact False.elim w | skip
  rename_i li off r
  cases rb <;> first | exact False.elim w | skip
  obtain ⟨v, e, w'⟩ := lookV_some w.2
  obtain ⟨u, e', r'⟩ := r.get _ _ e
  have hlt := (List.getElem?_eq_some_iff.mp e').1
  have hz := li.1
  have h0 := w.1
  exact tail_any li.isList.typeIs slot_list_getitem.lookup (wpAny_getItem_list li.isList h0 (by omega) (by rw [List.getElem?_toArray]; exact e') (k.here g w' r')) (hp _ _)
theorem idx_T : IdxSnd C oIdxT := by
  intro A envs σ ow s Qa Q E va vb a b value slice hp g k ra rb w
  cases ra <;> first | exact False.elim w | skip
  rename_i li off r
  cases rb <;> first | exact False.elim w | skip
  obtain ⟨v, e, w'⟩ := lookV_some w.2
  obtain ⟨u, e', r'⟩ := r.get _ _ e
  have hlt := (List.getElem?_eq_some_iff.mp e').1
  have hz := li.1
  have h0 := w.1
  exact tail_any (IsTup.typeIs li.isTuple) slot_tuple_getitem.lookup (PyProof.Rows.getItem_tuple li.isTuple (by omega) (by omega) (seqIndex_nat h0 (by rw [List.size_toArray]; exact hlt)) (by rw [List.getElem?_toArray]; exact e') (k.here g w' r')) (hp _ _)
theorem CmpSnd.ii {op : CmpOp} {f : Int → Int → Bool} (h : ∀ (A : Around) s (Q : Value → Shared → Prop) E x y t u, Q (.bool (f x y)) s → wpAny (model C.prog C.w) A (compareOp op (.int x t) (.int y u)) Q E s) : CmpSnd C op (onIIc f) := by
  intro A envs σ ow s K Q E va vb a b hu g ra rb w k
  cases ra <;> first | exact False.elim w | skip
  cases rb <;> first | exact False.elim w | skip
  exact h A s Q E _ _ _ _ (k _ s.toks w)
theorem cmp_lt : CmpSnd C .Lt cLt := .ii fun A s Q E x y t u h => PyProof.Rows.lt_int h
theorem cmp_le : CmpSnd C .LtE cLe := .ii fun A s Q E x y t u h => PyProof.Rows.le_int h
theorem cmp_ge : CmpSnd C .GtE cGe := .ii fun A s Q E x y t u h => PyProof.Rows.ge_int h
theorem KV.grown {envs : Vo} {σ : St} {ow : Nat → Option Nat} {s : Shared} {Qa : PQ} {Q : Value → Shared → Prop} (g : Good C envs σ ow s) (k : KV C envs σ ow s (RV C) Qa Q) {h' : Heap} {t : Nat} {av : AV} {v : Value} (e : ∀ b o, s.heap.get? b = some o → h'.get? b = some o) (a : Qa av σ)
    (r : VR C (Zs σ ow (zss envs)) h' av v) : Q v { s with heap := h', toks := t } := k v av σ ow _ a (Stp.ext e t) (g.ext e t) r
theorem bi_len : BiSnd C true (.builtin "len") oLen := by
  intro A envs σ ow s Qa Q E vs vals hq g k r w
  obtain ⟨xs, rfl, w⟩ := w
  cases r with | cons r1 r2 =>
  cases r2
  cases r1 with | ilist li off r =>
  refine len_list li.isList (by have := li.1; rw [List.size_toArray]; omega) ?_
  rw [List.size_toArray, ← r.length]
  exact k.val g _ w (.int _ _)
theorem bi_max2 : BiSnd C false (.builtin "max") oMax2 := by
  intro A envs σ ow s Qa Q E vs vals hq g k r w
  obtain ⟨a, b, rfl, w⟩ := w
  cases r with | cons r1 r2 =>
  cases r2 with | cons r2 r3 =>
  cases r3; cases r1; cases r2
  refine max_two_ints (hq rfl) fun h' tk e => ?_
  split at w <;> rename_i hc
  · rw [if_pos hc]; exact k.grown g e w (.int _ _)
  · rw [if_neg hc]; exact k.grown g e w (.int _ _)
theorem bi_intB : BiSnd C true (.type "int") oIntB := by
  intro A envs σ ow s Qa Q E vs vals hq g k r w
  obtain ⟨b, rfl, w⟩ := w
  cases r with | cons r1 r2 =>
  cases r2; cases r1
  exact call_int_bool (k.val g _ w (.int _ _))
end
end Ap
end
section
set_option Elab.async false
set_option linter.unusedVariables false
set_option linter.unusedSimpArgs false
namespace Ap
open PySem PySem.Calls PyProof.Rows
noncomputable def mapO {α β : Type} (f : α → Option β) : List α → Option (List β)
  | [] => some []
  | x :: xs => (f x).bind fun d => (mapO f xs).map (d :: ·)
noncomputable def rd : Nat → St → AV → Option PyData
  | 0, _, _ => Option.none
  | n + 1, σ, v => match v with
    | .none => some .none
    | .bool b => some (.bool b)
    | .int i => some (.int i)
    | .str s => some (.str s)
    | .tup xs => (mapO (rd n σ) xs).map .tuple
    | .ilist xs => (mapO (rd n σ) xs).map .list
    | .obj a => (seqOf σ (.obj a)).bind fun xs => (mapO (rd n σ) xs).map .list
    | .exn _ => Option.none
def cEq : OC := fun a b σ K => ∃ x y, rd 8 σ a = some x ∧ rd 8 σ b = some y ∧ K (PyData.eqv x y)
def cNe : OC := fun a b σ K => ∃ x y, rd 8 σ a = some x ∧ rd 8 σ b = some y ∧ K (!PyData.eqv x y)
section
variable {C : Cx} {A : Around} {envs : Vo} {σ : St} {ow : Nat → Option Nat} {s : Shared}
theorem seqOf_obj {a : Nat} {xs : List AV} (e : seqOf σ (.obj a) = some xs) : σ a = some (.list xs) := by
  have e' : (match σ a with | some (.list xs) => some xs | _ => Option.none) = some xs := e
  cases h : σ a with
  | none => rw [h] at e'; cases e'
  | some o =>
    rw [h] at e'
    cases o <;> first | (cases e'; rfl) | cases e'
theorem mapO_reads {n : Nat} {Z : Nat → Prop} {h : Heap} (f : AV → Option PyData) (ih : ∀ v u d, VR C Z h v u → f v = some d → (∃ as, Reads h u d as) ∧ d.canLay0 = true ∧ d.depth ≤ n) :
    ∀ {xs : List AV} {vs : List Value} {ds : List PyData}, VRs C Z h xs vs → mapO f xs = some ds → (∃ as, ReadsAll h vs ds as) ∧ PyData.canLayAll0 ds = true ∧ PyData.depthAll ds ≤ n := by
  intro xs
  induction xs with
  | nil =>
    intro vs ds r e
    cases r
    cases e
    exact ⟨⟨_, .nil⟩, rfl, Nat.zero_le _⟩
  | cons x xs hx =>
    intro vs ds r e
    cases r with | cons hd tl =>
    obtain ⟨d, e1, e2⟩ := Option.bind_eq_some_iff.mp e
    obtain ⟨ds', e3, rfl⟩ := Option.map_eq_some_iff.mp e2
    obtain ⟨⟨as, r⟩, c, dp⟩ := ih _ _ _ hd e1
    obtain ⟨⟨bs, rs⟩, cs, dps⟩ := hx tl e3
    refine ⟨⟨_, .cons r rs⟩, ?_, Nat.max_le.mpr ⟨dp, dps⟩⟩
    show (d.canLay0 && PyData.canLayAll0 ds') = true
    rw [c, cs]; rfl
theorem rd_reads (g : Good C envs σ ow s) : ∀ (n : Nat) (v : AV) (u : Value) (d : PyData), VR C (Zs σ ow (zss envs)) s.heap v u → rd n σ v = some d → (∃ as, Reads s.heap u d as) ∧ d.canLay0 = true ∧ d.depth ≤ n := by
  intro n
  induction n with
  | zero => intro v u d r e; cases e
  | succ n ih =>
    intro v u d r e
    cases r with
    | none => cases e; exact ⟨⟨_, .none⟩, rfl, Nat.zero_le _⟩
    | bool b => cases e; exact ⟨⟨_, .bool b⟩, rfl, Nat.zero_le _⟩
    | int i t => cases e; exact ⟨⟨_, .int i t⟩, rfl, Nat.zero_le _⟩
    | str x t ok => cases e; exact ⟨⟨_, .str x t⟩, ok, Nat.zero_le _⟩
    | tup at_ off r =>
      obtain ⟨ds, e', rfl⟩ := Option.map_eq_some_iff.mp e
      obtain ⟨⟨as, rs⟩, c, dp⟩ := mapO_reads (rd n σ) ih r e'
      obtain ⟨_, m, ho⟩ := at_
      exact ⟨⟨_, .tuple ho rfl rfl rs⟩, c, Nat.succ_le_succ dp⟩
    | ilist at_ off r =>
      obtain ⟨ds, e', rfl⟩ := Option.map_eq_some_iff.mp e
      obtain ⟨⟨as, rs⟩, c, dp⟩ := mapO_reads (rd n σ) ih r e'
      obtain ⟨_, m, ho⟩ := at_
      exact ⟨⟨_, .list ho rfl rfl rs⟩, c, Nat.succ_le_succ dp⟩
    | obj a =>
      obtain ⟨xs, e1, e2⟩ := Option.bind_eq_some_iff.mp e
      obtain ⟨ds, e', rfl⟩ := Option.map_eq_some_iff.mp e2
      obtain ⟨vs, ⟨_, m, ho⟩, r⟩ := g.store a _ (seqOf_obj e1)
      obtain ⟨⟨as, rs⟩, c, dp⟩ := mapO_reads (rd n σ) ih r e'
      exact ⟨⟨_, .list ho rfl rfl rs⟩, c, Nat.succ_le_succ dp⟩
    | exn at_ cls dt off => cases e
theorem cmp_eq : CmpSnd C .Eq cEq := by
  intro A envs σ ow s K Q E va vb a b hu g ra rb w k
  obtain ⟨x, y, e1, e2, w⟩ := w
  obtain ⟨⟨as, r1⟩, c1, d1⟩ := rd_reads g 8 _ _ _ ra e1
  obtain ⟨⟨bs, r2⟩, c2, d2⟩ := rd_reads g 8 _ _ _ rb e2
  exact SeqAt.compareEq_reads r1 r2 c1 c2 (by omega) (k _ s.toks w)
theorem cmp_ne : CmpSnd C .NotEq cNe := by
  intro A envs σ ow s K Q E va vb a b hu g ra rb w k
  obtain ⟨x, y, e1, e2, w⟩ := w
  obtain ⟨⟨as, r1⟩, c1, d1⟩ := rd_reads g 8 _ _ _ ra e1
  obtain ⟨⟨bs, r2⟩, c2, d2⟩ := rd_reads g 8 _ _ _ rb e2
  exact SeqAt.compareNe_reads r1 r2 c1 c2 (by omega) (k _ s.toks w)
theorem VRs.drop {Z : Nat → Prop} {h : Heap} : ∀ {xs : List AV} {vs : List Value}, VRs C Z h xs vs → ∀ n : Nat, VRs C Z h (xs.drop n) (vs.drop n) := by
  intro xs
  induction xs with
  | nil => intro vs r n; cases r; rw [List.drop_nil, List.drop_nil]; exact .nil
  | cons x xs ih =>
    intro vs r n
    cases n with
    | zero => exact r
    | succ n => cases r with | cons hd tl => exact ih tl n
theorem VRs.take {Z : Nat → Prop} {h : Heap} : ∀ {xs : List AV} {vs : List Value}, VRs C Z h xs vs → ∀ n : Nat, VRs C Z h (xs.take n) (vs.take n) := by
  intro xs
  induction xs with
  | nil => intro vs r n; cases r; rw [List.take_nil, List.take_nil]; exact .nil
  | cons x xs ih =>
    intro vs r n
    cases n with
    | zero => exact .nil
    | succ n => cases r with | cons hd tl => exact .cons hd (ih tl n)
theorem slicePick_cut (vs : List Value) (lo hi : Nat) : slicePick vs.toArray (some (lo : Int)) (some (hi : Int)) Option.none = ((vs.take hi).drop lo).toArray := by
  rw [slicePick_plain]
  congr 1
  show List.take (clipAt vs.length (hi : Int) - clipAt vs.length (lo : Int)) (List.drop (clipAt vs.length (lo : Int)) vs) = _
  rw [clipAt_nat, clipAt_nat]
  rw [List.drop_take]
  by_cases h : lo ≤ vs.length
  · rw [Nat.min_eq_left h]
    by_cases h2 : hi ≤ vs.length
    · rw [Nat.min_eq_left h2]
    · rw [Nat.min_eq_right (by omega), List.take_of_length_le (by rw [List.length_drop]; omega), List.take_of_length_le (by rw [List.length_drop]; omega)]
  · rw [List.drop_eq_nil_of_le (by omega), List.drop_eq_nil_of_le (by omega), List.take_nil, List.take_nil]
theorem slice_L {own : Bool} {lo hi : Nat} {value : Expr} {lower upper : Option Expr} {pp : Pos} {va : AV} {a : Value} {t u : Tok} {Qa : PQ} {Q : Value → Shared → Prop} {E : Value → Shared → Prop} (g : Good C envs σ ow s) (k : KV C envs σ ow s (RV C) Qa Q)
    (ra : VR C (Zs σ ow (zss envs)) s.heap va a) (w : oSl own lo hi va σ Qa) :
    wpAny (model C.prog C.w) A (subscriptTail value (.Slice lower upper Option.none pp) a (.ref s.heap.objs.size)) Q E { s with heap := s.heap.push { cls := .type "slice", data := .fields #[.int lo t, .int hi u, .none] } } := by
  have q : ∀ b o', s.heap.get? b = some o' → (s.heap.push { cls := .type "slice", data := .fields #[.int lo t, .int hi u, .none] }).get? b = some o' := fun _ _ e => Heap.get?_push_of_some _ e
  have ra' := VR.push (o := { cls := .type "slice", data := .fields #[.int lo t, .int hi u, .none] }) ra
  cases ra' <;> first | exact False.elim w | skip
  rename_i li off r
  have hz := li.1
  refine tail_any (ops := [.ref s.heap.objs.size, _]) li.isList.typeIs slot_list_getitem.lookup (wpAny_getItem_list_slice li.isList (Heap.IsSliceOf.new _ _ _ _) (.int _ _) (.int _ _) .none (by intro h; cases h) ?_ (by rw [List.size_toArray]; exact hz)) rfl
  rw [slicePick_cut]
  refine mkL_snd (s := { s with heap := s.heap.push { cls := .type "slice", data := .fields #[.int lo t, .int hi u, .none] } }) (g.ext q s.toks) (k.stp (Stp.ext q s.toks)) s.toks ?_ w ((r.take _).drop _)
  rw [List.length_drop, List.length_take]
  omega
end
end Ap
end
section
set_option Elab.async false
set_option genSizeOf false
set_option genSizeOfSpec false
set_option linter.unusedVariables false
set_option linter.unusedSimpArgs false
namespace Ap
open PySem PySem.Calls PyProof.Rows
structure FnT where
  nms : List Str
  sc : Scope
  body : List Stmt
structure Tabs where
  fts : List FnT
  fnN : List Str
  clsN : List Str
  atN : List Str
  bltN : List Str
structure ClsAt (C : Cx) (T : Tabs) (c : Nat) (ci : ClsI) : Prop where
  ex : ∃ nm q N bs sn sub col dd k0 k1 k2 k3 k5 mN, C.base.get? (C.clsA c) = some (excClassObj nm q (C.clsA c) N bs [.type "object"] true sn sub false col dd k0 k1 k2 k3 k5 "object.__new__") ∧ C.base.Ns N mN ∧
    mN "__getattribute__" = Option.none ∧ mN "__getattr__" = Option.none ∧ mN "__setattr__" = Option.none ∧ (∀ f, ci.init = some f → mN "__init__" = some (.ref (C.fnA f))) ∧
    (∀ m f, ci.meths.lookup m = some f → mN (C.nm m) = some (.ref (C.fnA f))) ∧ ∀ k, ci.meths.lookup k = Option.none → k < T.atN.length → mN (C.nm k) = Option.none
def IsiX (C : Cx) (c : Nat) (t : Value) (b : Bool) : Prop :=
  ∀ A Q E (s : Shared) e o vs, C.base.StaysIn s.heap → s.heap.get? e = some o → o.cls = .ref (C.clsA c) → o.data = .fields vs → o.dict = Option.none → (∀ tk, Q (.bool b) { s with toks := tk }) →
    wpAny (model C.prog C.w) A (call (.builtin "isinstance") [.ref e, t]) Q E s
def ExmX (C : Cx) (c d : Nat) (b : Bool) : Prop :=
  ∀ A Q E (s : Shared) e o vs, C.base.StaysIn s.heap → s.heap.get? e = some o → o.cls = .ref (C.clsA c) → o.data = .fields vs → o.dict = Option.none → Q b s →
    wpAny (model C.prog C.w) A (excMatches (.ref e) (.ref (C.clsA d))) Q E s
structure ExcAt (C : Cx) (c : Nat) : Prop where
  ex : ∃ nm q N bs bm bmB hdct sn sub ab col dd k0 k1 k2 k3 k5 B newId initId mN, C.base.get? (C.clsA c) = some (excClassObj nm q (C.clsA c) N bs bm hdct sn sub ab col dd k0 k1 k2 k3 k5 newId) ∧ C.base.Ns N mN ∧
    mN "__init__" = Option.none ∧ OwnTail C.base bmB bm ∧ ExcBaseFacts B newId initId bmB ∧ bm.contains (.type "BaseException") = true
structure FnOk (C : Cx) (a : Addr) (ft : FnT) (arity : Nat) : Prop where
  ex : ∃ o fd, C.base.get? a = some o ∧ o.cls = .type "function" ∧ o.data = .func fd ∧ fd.body = .stmts ft.body ∧ fd.scope = ft.sc ∧ fd.globals = mainGlobals ∧ fd.builtins = builtinsNs ∧ fd.closure = [] ∧
    C.base.CodeRec fd.code fd.qualname ∧ ∀ vals : List Value, vals.length = arity → bindArgs fd ⟨vals, []⟩ = pure ((ft.nms.take arity).zip vals)
structure CxOk (C : Cx) (T : Tabs) (P : Prg) : Prop where
  g : C.base.Ns mainGlobals C.mg
  b : C.base.Ns builtinsNs C.mb
  nolimit : C.base.NoLimit
  builtins : ∀ x : Str, x ≠ "__name__" → C.mb x = bootBuiltins x
  fnN : ∀ f x, T.fnN[f]? = some x → x ≠ Str.empty → C.mg x = some (.ref (C.fnA f))
  clsN : ∀ c x, T.clsN[c]? = some x → C.mg x = some (.ref (C.clsA c))
  bltN : ∀ x ∈ T.bltN, C.mg x = Option.none
  nm : ∀ k, C.nm k = T.atN.getD k Str.empty
  inj : T.atN.Nodup
  ne : Str.empty ∉ T.atN
  objN : ∀ x ∈ T.atN, typeLookup (.type "object") x = pure Option.none
  fnF : ∀ f, f < T.fnN.length → ∃ o fd, C.base.get? (C.fnA f) = some o ∧ o.cls = .type "function" ∧ o.data = .func fd
  cls : ∀ c ∈ C.ics, ∃ ci, P.cls[c]? = some ci ∧ ClsAt C T c ci
  ics : ∀ c ci, P.cls[c]? = some ci → ci.init ≠ Option.none → c ∈ C.ics
  xcs : ∀ c ci, P.cls[c]? = some ci → ci.init = Option.none → c ∈ C.xcs
  isiC : ∀ c ∈ C.xcs, ∀ d ∈ C.xcs, ∀ ci, P.cls[c]? = some ci → IsiX C c (.ref (C.clsA d)) (ci.sups.contains d)
  isiV : ∀ c ∈ C.xcs, IsiX C c (.type "ValueError") true
  exm : ∀ c ∈ C.xcs, ∀ d ∈ C.xcs, ∀ ci, P.cls[c]? = some ci → ExmX C c d (ci.sups.contains d)
  exc : ∀ c ∈ C.xcs, ExcAt C c
  fns : ∀ f fi, P.fns[f]? = some fi → ∃ ft, T.fts[f]? = some ft ∧ FnOk C (C.fnA f) ft fi.arity
section
variable {C : Cx} {T : Tabs} {P : Prg} {A : Around} {q : Bool} {env : Env} {envs : Vo} {nms : List Str} {ρ : Loc} {σ : St} {ow : Nat → Option Nat} {s : Shared} {Qa : PQ} {Q : Value → Shared → Prop} {E : Value → Shared → Prop}
theorem Good.notBase (g : Good C envs σ ow s) {b : Addr} {o : Obj} (e : C.base.get? b = some o) : ¬ Zs σ ow (zss envs) b := by
  rintro (q | q)
  · rw [g.ownBase q] at e; cases e
  · rw [(g.mem _ q).1] at e; cases e
theorem Good.baseVR (g : Good C envs σ ow s) {v : AV} {u : Value} (r : VR C (fun _ => False) C.base v u) : VR C (Zs σ ow (zss envs)) s.heap v u :=
  r.kp (fun b o e _ => g.stays b o e) fun b q => .inr (by
    cases e : C.base.get? b with
    | none => rfl
    | some o => exact absurd q (g.notBase e))
theorem var_snd {i : Nat} {x : Str} {pos : Pos} {v : AV} (hx : nms[i]? = some x) (hd : (x == ("__debug__" : Str)) = false) (hn : (x == ("__classdict__" : Str)) = false) (k : Ok C A q env envs nms ρ σ ow s) (kv : KV C envs σ ow s (RV C) Qa Q)
    (e : getL ρ i = some v) (w : Qa v σ) : wpAny (model C.prog C.w) A (eval (.Name x pos) env) Q E s := by
  obtain ⟨y, val, ey, r, l⟩ := k.loc.val i v e
  rw [hx] at ey
  cases ey
  have fin : Q val s := kv.here k.good w r
  rcases l with ⟨kd, m, hns, hm⟩ | ⟨c, kd, hc, hv, _⟩
  · exact wpAny_Name (wpAny_loadName_local k.loc.kind kd hns hm fin) hd
  · rcases kd with kd | kd
    · exact wpAny_Name (wpAny_loadName_cell k.loc.kind kd hc hv fin) hd
    · exact wpAny_Name (wpAny_loadName_free k.loc.kind kd hc hv fin hn) hd
theorem gname {x : Str} {pos : Pos} {v : Value} (X : CxOk C T P) (hx : env.kindOf x = some .globalImplicit) (hd : (x == ("__debug__" : Str)) = false) (k : Ok C A q env envs nms ρ σ ow s) (e : C.mg x = some v) (h : Q v s) :
    wpAny (model C.prog C.w) A (eval (.Name x pos) env) Q E s :=
  Name_function_global k.loc.kind hx (loadGlobal_global (by rw [k.loc.glob]; exact X.g.keeps k.good.stays) e h) hd
theorem bname {x : Str} {pos : Pos} {v : Value} (X : CxOk C T P) (hx : env.kindOf x = some .globalImplicit) (hd : (x == ("__debug__" : Str)) = false) (k : Ok C A q env envs nms ρ σ ow s) (hm : x ∈ T.bltN) (hn : x ≠ "__name__") (hv : bootBuiltins x = some v) (h : Q v s) :
    wpAny (model C.prog C.w) A (eval (.Name x pos) env) Q E s :=
  Name_function_global k.loc.kind hx (loadGlobal_builtin (by rw [k.loc.glob]; exact X.g.keeps k.good.stays) (X.bltN x hm) (by rw [k.loc.blt]; exact X.b.keeps k.good.stays) ((X.builtins x hn).trans hv) h) hd
theorem ORep.inst {c : Nat} {fs : List (Nat × AV)} {a : Addr} (g : Good C envs σ ow s) (e : σ a = some (.inst c fs)) : ∃ dx mA, s.heap.Inst a (C.clsA c) mA ∧ ow dx = some a ∧ FMap C (Zs σ ow (zss envs)) s.heap fs mA ∧ (∃ o, s.heap.get? a = some o ∧ o.dict = some dx) ∧ c ∈ C.ics := by
  obtain ⟨o, dx, mA, h1, h2, h3, h4, h5, h6, h7, h8, h9⟩ := g.store a _ e
  exact ⟨dx, mA, ⟨o, h1, h2, h3, .inr ⟨dx, h4, h5, h7⟩⟩, h6, h9, ⟨o, h1, h4⟩, h8.1⟩
theorem CxOk.nm_lt (X : CxOk C T P) {f : Nat} {x : Str} (h : T.atN[f]? = some x) : C.nm f = x ∧ f < T.atN.length := by
  refine ⟨by rw [X.nm, List.getD_eq_getElem?_getD, h]; rfl, (List.getElem?_eq_some_iff.mp h).1⟩
theorem CxOk.mem (X : CxOk C T P) {f : Nat} {x : Str} (h : T.atN[f]? = some x) : x ∈ T.atN := List.mem_of_getElem? h
theorem attr_snd {c f : Nat} {x : Str} {va : AV} {a : Value} {expr : Bool} (X : CxOk C T P) (hx : T.atN[f]? = some x) (hp : ∀ ci, P.cls[c]? = some ci → ci.meths.lookup f = Option.none)
    (g : Good C envs σ ow s) (k : KV C envs σ ow s (RV C) Qa Q) (ra : VR C (Zs σ ow (zss envs)) s.heap va a) (w : oAttr c f va σ Qa) :
    wpAny (model C.prog C.w) A (getAttr a x expr) Q E s := by
  obtain ⟨a, fs, v, rfl, ha, hv, w⟩ := w
  cases ra
  obtain ⟨dx, mA, I, _, fm, _, hci⟩ := ORep.inst g ha
  obtain ⟨ci, h1, h2⟩ := X.cls c hci
  obtain ⟨nm, q, N, bs, sn, sub, col, dd, k0, k1, k2, k3, k5, mN, c1, c2, c3, c4, c5, c6, c7, c8⟩ := h2.ex
  obtain ⟨u, hu, ru⟩ := fm.1 f v hv
  obtain ⟨en, lt⟩ := X.nm_lt hx
  obtain ⟨hh, gg, dd', tt, oo⟩ := s
  refine load_attr (mA := mA) (g.stays _ _ c1) (c2.keeps g.stays) c3 (by rw [← en]; exact c8 f (hp ci h1) lt) (X.objN x (X.mem hx)) I (by rw [← en]; exact hu) ?_ (k.val g _ w ru)
  cases ru <;> rfl
theorem lookF_put {κ : Type} [DecidableEq κ] (k k' : κ) (v : AV) : ∀ es : List (κ × AV), lookF (putF k v es) k' = if k' = k then some v else lookF es k' := by
  have snoc : ∀ es : List (κ × AV), es.any (fun e => e.1 = k) = false → lookF (es ++ [(k, v)]) k' = if k' = k then some v else lookF es k' := by
    intro es h
    unfold lookF
    rw [List.find?_append]
    by_cases q : k' = k
    · subst q
      have : es.find? (fun e => decide (e.1 = k')) = Option.none := by
        rw [List.find?_eq_none]
        intro x hx hq
        have := List.any_eq_false.mp h x hx
        exact this hq
      simp [this]
    · simp [q, Ne.symm q]
  have mp : ∀ es : List (κ × AV), es.any (fun e => e.1 = k) = true → lookF (es.map (fun e => if e.1 = k then (e.1, v) else e)) k' = if k' = k then some v else lookF es k' := by
    intro es
    induction es with
    | nil => intro h; simp at h
    | cons e es ih =>
      intro h
      by_cases q : e.1 = k
      · by_cases z : k' = k
        · subst z; simp [lookF, q]
        · have : ¬ e.1 = k' := fun y => z (y.symm.trans q)
          simp only [List.map_cons, q, if_true, z, if_false]
          have e1 : lookF ((k, v) :: es.map (fun e => if e.1 = k then (e.1, v) else e)) k' = lookF (es.map (fun e => if e.1 = k then (e.1, v) else e)) k' := by simp [lookF, List.find?_cons, Ne.symm z]
          have e2 : lookF (e :: es) k' = lookF es k' := by simp [lookF, List.find?_cons, this]
          rw [e1, e2]
          by_cases a : es.any (fun e => e.1 = k) = true
          · rw [ih a, if_neg z]
          · have hm : es.map (fun e => if e.1 = k then (e.1, v) else e) = es := by
              conv => rhs; rw [← List.map_id es]
              apply List.map_congr_left
              intro y hy
              have : ¬ y.1 = k := fun w => a (List.any_eq_true.mpr ⟨y, hy, by simpa using w⟩)
              simp [this]
            rw [hm]
      · have h' : es.any (fun e => e.1 = k) = true := by simpa [List.any_cons, q] using h
        simp only [List.map_cons, q, if_false]
        by_cases z : e.1 = k'
        · have : ¬ k' = k := fun y => q (z.trans y)
          simp [lookF, List.find?_cons, z, this]
        · have e1 : lookF (e :: es.map (fun e => if e.1 = k then (e.1, v) else e)) k' = lookF (es.map (fun e => if e.1 = k then (e.1, v) else e)) k' := by simp [lookF, List.find?_cons, z]
          have e2 : lookF (e :: es) k' = lookF es k' := by simp [lookF, List.find?_cons, z]
          rw [e1, e2]; exact ih h'
  intro es
  unfold putF
  by_cases h : es.any (fun e => decide (e.1 = k)) = true
  · rw [if_pos h]; exact mp es h
  · rw [if_neg h]; exact snoc es (Bool.eq_false_iff.mpr h)
theorem putF_keys {κ : Type} [DecidableEq κ] (k : κ) (v : AV) (es : List (κ × AV)) : ∀ x, (x ∈ es.map (·.1) ∨ x = k) ↔ x ∈ (putF k v es).map (·.1) := by
  intro x
  unfold putF
  split
  · rename_i h
    have e : (es.map (fun e => if e.1 = k then (e.1, v) else e)).map (·.1) = es.map (·.1) := by
      rw [List.map_map]; apply List.map_congr_left; intro y _; simp only [Function.comp]; split <;> rfl
    rw [e]
    constructor
    · rintro (h1 | rfl)
      · exact h1
      · obtain ⟨y, hy, hq⟩ := List.any_eq_true.mp h
        exact List.mem_map.mpr ⟨y, hy, by simpa using hq⟩
    · exact .inl
  · simp
theorem putF_length {κ : Type} [DecidableEq κ] (k : κ) (v : AV) (es : List (κ × AV)) : (putF k v es).length ≤ es.length + 1 := by
  unfold putF; split <;> simp
theorem setA_snd {f c : Nat} {x : Str} {a : Addr} {v : AV} {u : Value} {fs : List (Nat × AV)} {Q : Unit → Shared → Prop} (X : CxOk C T P) (hx : T.atN[f]? = some x) (hp : P.cls.all (fun ci => (ci.meths.lookup f).isNone) = true)
    (g : Good C envs σ ow s) (ha : σ a = some (.inst c fs)) (hz : fs.length < 100) (r : VR C (Zs σ ow (zss envs)) s.heap v u)
    (k : ∀ s', Stp (frs envs) (Own σ ow) (Own (upd σ a (.inst c (putF f v fs))) ow) s s' → Good C envs (upd σ a (.inst c (putF f v fs))) ow s' → Q () s') :
    wpAny (model C.prog C.w) A (setAttr (.ref a) x u) Q E s := by
  obtain ⟨o, dx, mA, h1, h2, h3, h4, h5, h6, h7, ⟨hci, h8⟩, fm⟩ := g.store a _ ha
  obtain ⟨ci, q1, q2⟩ := X.cls c hci
  obtain ⟨nm, q, N, bs, sn, sub, col, dd, k0, k1, k2, k3, k5, mN, c1, c2, c3, c4, c5, c6, c7, c8⟩ := q2.ex
  obtain ⟨en, lt⟩ := X.nm_lt hx
  have hm : ci.meths.lookup f = Option.none := by
    have := List.all_eq_true.mp hp ci (List.mem_of_getElem? q1)
    simpa using this
  obtain ⟨hh, gg, dd', tt, oo⟩ := s
  have hxC : a ≠ C.clsA c := fun z => by
    rw [z] at ha
    rw [g.fresh _ (by rw [ha]; rfl)] at c1; cases c1
  refine store_attr (ns := fs.map fun p => C.nm p.1) PySem.F.store_object (g.stays _ _ c1) (c2.keeps g.stays) c5 (by rw [← en]; exact c8 f hm lt) (X.objN x (X.mem hx)) hxC ⟨o, h1, h2, h3, .inr ⟨dx, h4, h5, h7⟩⟩ (fun h' tk' I' hk hsame => ?_) (fun y hy => fm.2 y hy) (by rw [List.length_map]; unfold sizeLine; omega)
  obtain ⟨o₁, e1, e2, e3, e4, e5⟩ := hsame o h1
  have eo : o₁ = o := by
    obtain ⟨a1, a2, a3, a4⟩ := o₁
    obtain ⟨b1, b2, b3, b4⟩ := o
    simp only at e2 e3 e4 e5 h4
    subst e2 e3 e4 h4
    rw [e5 dx rfl]
  subst eo
  have keepF : ∀ b ob, b ≠ dx → hh.get? b = some ob → h'.get? b = some ob := fun b ob nb e => by
    by_cases z : b = a
    · subst z; rw [h1] at e; cases e; exact e1
    · exact hk b ob z (fun o₀ dx' z1 z2 => by rw [h1] at z1; cases z1; rw [h4] at z2; cases z2; exact nb) e
  obtain ⟨o₂, i1, i2, i3, i4⟩ := I'
  rw [e1] at i1
  cases i1
  rcases i4 with ⟨i4, _⟩ | ⟨dx', i4, i5, i6⟩
  · rw [h4] at i4; cases i4
  rw [h4] at i4
  cases i4
  have lvd : (h'.get? dx).isSome = true := by obtain ⟨_, _, _, z, _⟩ := i6; rw [z]; rfl
  have hO : Own σ ow dx := .inr (by rw [h6]; rfl)
  have st := Stp.change (o := .inst c (putF f v fs)) g ha (.inr h6) keepF tk'
  have fm' : FMap C (Zs (upd σ a (.inst c (putF f v fs))) ow (zss envs)) h' (putF f v fs) (fun y => if y = x then some u else mA y) := by
    refine ⟨fun f' v' e => ?_, fun y hy => ?_⟩
    · rw [lookF_put] at e
      by_cases z : f' = f
      · subst z
        rw [if_pos rfl] at e
        cases e
        exact ⟨u, by rw [en]; simp, st.vr r⟩
      · rw [if_neg z] at e
        obtain ⟨u', e', r'⟩ := fm.1 f' v' e
        refine ⟨u', ?_, st.vr r'⟩
        have nx : C.nm f' ≠ x := fun y => z (by
          have hf' : f' < T.atN.length := by
            apply Decidable.byContradiction
            intro hn
            rw [X.nm, List.getD_eq_getElem?_getD, List.getElem?_eq_none (by omega)] at y
            exact X.ne (by rw [show Str.empty = x from y]; exact X.mem hx)
          rw [← en] at y
          rw [X.nm, X.nm, List.getD_eq_getElem?_getD, List.getD_eq_getElem?_getD, List.getElem?_eq_getElem hf', List.getElem?_eq_getElem lt] at y
          exact (List.getElem_inj X.inj).mp y)
        show (if C.nm f' = x then some u else mA (C.nm f')) = some u'
        rw [if_neg nx]; exact e'
    · have : y ∈ ((putF f v fs).map (·.1)).map C.nm := by
        by_cases z : y = x
        · subst z
          exact List.mem_map.mpr ⟨f, (putF_keys f v fs f).mp (.inr rfl), en⟩
        · have hy' : mA y ≠ Option.none := by simpa [z] using hy
          have := fm.2 y hy'
          obtain ⟨p, hp1, rfl⟩ := List.mem_map.mp this
          exact List.mem_map.mpr ⟨p.1, (putF_keys f v fs p.1).mp (.inl (List.mem_map.mpr ⟨p, hp1, rfl⟩)), rfl⟩
      rwa [List.map_map] at this
  have z := putF_length f v fs
  exact k _ st (g.change (o := .inst c (putF f v fs)) ha (.inr h6) keepF lvd ⟨o₁, dx, _, e1, h2, h3, h4, h5, h6, i6, ⟨hci, by omega⟩, fm'⟩ tk')
end
end Ap
end
section
set_option Elab.async false
set_option linter.unusedVariables false
set_option linter.unusedSimpArgs false
namespace Ap
open PySem PySem.Calls PyProof.Rows
structure AOkF (A : Around) (envs : Vo) (d : Nat) : Prop where
  frames : A.frames = some envs.l
  depth : A.depth + 3 * d < recursionLimit
  units : A.units + 20 * d + 100 < cLine
structure AOk (A : Around) (envs : Vo) (d : Nat) : Prop where
  frames : A.frames = some envs.l
  depth : A.depth + 3 * d + 2 < recursionLimit
  units : A.units + 20 * d + 110 < cLine
theorem AOk.toF {A : Around} {envs : Vo} {d : Nat} (x : AOk A envs d) : AOkF A envs d := ⟨x.frames, by have := x.depth; omega, by have := x.units; omega⟩
theorem AOk.u64 {A : Around} {envs : Vo} {d : Nat} (x : AOk A envs d) : A.units + 64 < cLine := by have := x.units; omega
theorem AOkF.deeper {A : Around} {envs : Vo} {d : Nat} (x : AOkF A envs (d + 1)) (env : Env) (fs its : List Addr) : AOk (A.deeper env) ⟨env :: envs.l, fs, its⟩ d :=
  ⟨Around.frames_deeper x.frames, by have := x.depth; show A.depth + 1 + 3 * d + 2 < _; omega, by have := x.units; show A.units + 3 + 20 * d + 110 < _; omega⟩
theorem AOk.mark {A : Around} {envs : Vo} {d : Nat} (x : AOk A envs d) (h : Option Value) : AOk (A.mark h) envs d := ⟨x.frames, x.depth, x.units⟩
def qOf (P : Prg) (f : Nat) : Bool := ((P.fns[f]?).map (·.quiet)).getD false
def SndF (C : Cx) (P : Prg) (d : Nat) (F : Calls) : Prop :=
  ∀ f vs vals σ ow s Qa Ea R A envs, F f vs σ Qa Ea → Good C envs σ ow s → AOkF A envs d → HOk A (qOf P f) (Zs σ ow (zss envs)) s.heap → VRs C (Zs σ ow (zss envs)) s.heap vs vals →
    KV C envs σ ow s (RV C) Qa (fun v s' => R (.ok (.ret v)) s') → KX C envs σ ow s Ea (fun e s' => R (.error e) s') → codeAny (model C.prog C.w) A (.call (.ref (C.fnA f)) ⟨vals, []⟩) R s
def notStar : Expr → Bool
  | .Starred .. => false
  | _ => true
theorem starEach_cons {e : Expr} {rest : List Expr} {env : Env} (h : notStar e = true) : starEach (e :: rest) env = (false, eval e env) :: starEach rest env := by
  cases e <;> first | rfl | exact Bool.noConfusion h
theorem starEach_any {es : List Expr} {env : Env} {pos : Pos} (h : es.all notStar = true) : (backTo pos (starEach es env)).any (·.1) = false := by
  induction es with
  | nil => rfl
  | cons e es ih =>
    rw [List.all_cons, Bool.and_eq_true] at h
    rw [starEach_cons h.1]
    show (false || (backTo pos (starEach es env)).any (·.1)) = false
    rw [ih h.2]; rfl
theorem starEach_all {es : List Expr} {env : Env} {pos : Pos} (h : es.all notStar = true) : (backTo pos (starEach es env)).all (fun x => !x.1) = true := by
  induction es with
  | nil => rfl
  | cons e es ih =>
    rw [List.all_cons, Bool.and_eq_true] at h
    rw [starEach_cons h.1]
    show (true && (backTo pos (starEach es env)).all (fun x => !x.1)) = true
    rw [ih h.2]; rfl
section
variable {M : Model} {A : Around} {E : Value → Shared → Prop} {s : Shared} {env : Env}
theorem evalArgs_any {f : Value} {es : List Expr} {pos : Pos} {Q : Args → Shared → Prop} (hs : es.all notStar = true) (h : wpAny M A (spliced (backTo pos (starEach es env))) (fun vs s' => Q ⟨vs, []⟩ s') E s) :
    wpAny M A (evalArgs f true (backTo pos (starEach es env)) []) Q E s := by
  cases es with
  | nil =>
    unfold evalArgs
    show wpAny M A (spliced (backTo pos (starEach [] env)) >>= _) Q E s
    refine wpAny_bind (wpAny_mono h (fun vs s' h' => ?_) fun _ _ x => x)
    refine wpAny_bind (wpAny_pure ?_)
    refine wpAny_holding ?_
    exact wpAny_bind (wpAny_pure (wpAny_bind (wpAny_pure (wpAny_pure h'))))
  | cons e es =>
    rw [List.all_cons, Bool.and_eq_true] at hs
    rw [starEach_cons hs.1] at h ⊢
    exact evalArgs_plain h
end
section
variable {C : Cx} {T : Tabs} {P : Prg} {A : Around} {q : Bool} {env : Env} {envs : Vo} {nms : List Str} {ρ : Loc} {σ : St} {ow : Nat → Option Nat} {s : Shared} {Qa : PQ} {Ea : PE} {Q : Value → Shared → Prop} {E : Value → Shared → Prop} {d : Nat} {F : Calls}
theorem call_snd {f : Nat} {vs : List AV} {vals : List Value} (hF : SndF C P d F) (w : F f vs σ Qa Ea) (g : Good C envs σ ow s) (a : AOkF A envs d) (hh : HOk A (qOf P f) (Zs σ ow (zss envs)) s.heap) (r : VRs C (Zs σ ow (zss envs)) s.heap vs vals)
    (kv : KV C envs σ ow s (RV C) Qa Q) (kx : KX C envs σ ow s Ea E) : wpAny (model C.prog C.w) A (call (.ref (C.fnA f)) vals) Q E s :=
  wpAny_call (hF f vs vals σ ow s Qa Ea _ A envs w g a hh r kv kx)
theorem under_make (A : Around) (cc : Addr) (rest : List Value) : (A.under (.builtin "type.__call__" ⟨.ref cc :: rest, []⟩)).frames = A.frames ∧ (A.under (.builtin "type.__call__" ⟨.ref cc :: rest, []⟩)).depth = A.depth + 1 ∧ (A.under (.builtin "type.__call__" ⟨.ref cc :: rest, []⟩)).units = A.units + 1 ∧ (A.under (.builtin "type.__call__" ⟨.ref cc :: rest, []⟩)).handled = A.handled := by
  refine ⟨rfl, ?_, ?_, rfl⟩
  · show A.depth + Code.weight _ = A.depth + 1
    rfl
  · rfl
theorem new_snd {c f : Nat} {ci : ClsI} {vs : List AV} {vals : List Value} (X : CxOk C T P) (hF : SndF C P d F) (hc : P.cls[c]? = some ci) (hi : ci.init = some f) (hlt : f < T.fnN.length)
    (w : ∀ a, σ a = Option.none → F f (.obj a :: vs) (upd σ a (.inst c [])) (kInit a Qa) Ea)
    (g : Good C envs σ ow s) (a : AOk A envs d) (hh : HOk A (qOf P f) (Zs σ ow (zss envs)) s.heap) (r : VRs C (Zs σ ow (zss envs)) s.heap vs vals) (kv : KV C envs σ ow s (RV C) Qa Q) (kx : KX C envs σ ow s Ea E) :
    wpAny (model C.prog C.w) A (call (.ref (C.clsA c)) vals) Q E s := by
  have hci := X.ics c ci hc (by rw [hi]; exact Option.some_ne_none _)
  obtain ⟨ci', q1, q2⟩ := X.cls c hci
  rw [hc] at q1
  cases q1
  obtain ⟨nm, q, N, bs, sn, sub, col, dd, k0, k1, k2, k3, k5, mN, c1, c2, c3, c4, c5, c6, c7, c8⟩ := q2.ex
  obtain ⟨oI, fd, f1, f2, f3⟩ := X.fnF f hlt
  obtain ⟨hh', gg, dd', tt, oo⟩ := s
  refine wpAny_call_obj_init PySem.F.objNew (g.stays _ _ c1) (c2.keeps g.stays) (c6 f hi) (g.stays _ _ f1) f2 fun h' x dx hm => ?_
  obtain ⟨o, i1, i2, i3, i4⟩ := hm.inst
  have nd : dx ≠ x := by
    rcases i4 with ⟨i4, _⟩ | ⟨d', i4, i5, _⟩
    · rw [hm.dict o i1] at i4; cases i4
    · rw [hm.dict o i1] at i4; cases i4; exact i5
  have ns1 : h'.Ns1 dx fun _ => Option.none := by
    rcases i4 with ⟨i4, _⟩ | ⟨d', i4, i5, i6⟩
    · rw [hm.dict o i1] at i4; cases i4
    · rw [hm.dict o i1] at i4; cases i4; exact i6
  have noF : ∀ b, hh'.get? b = Option.none → b ∉ zss envs := fun b e m => by
    obtain ⟨_, o, e'⟩ := g.mem _ m
    have e'' : hh'.get? b = some o := e'
    rw [e] at e''; cases e''
  have sx : σ x = Option.none := by
    cases e : σ x with
    | none => rfl
    | some o =>
      obtain ⟨ob, z⟩ := g.live (b := x) (.inl (by rw [e]; rfl))
      have z' : hh'.get? x = some ob := z
      rw [hm.newX] at z'; cases z'
  have ox : ow x = Option.none := by
    cases e : ow x with
    | none => rfl
    | some o =>
      obtain ⟨ob, z⟩ := g.live (b := x) (.inr (by rw [e]; rfl))
      have z' : hh'.get? x = some ob := z
      rw [hm.newX] at z'; cases z'
  have sdx : σ dx = Option.none := by
    cases e : σ dx with
    | none => rfl
    | some o =>
      obtain ⟨ob, z⟩ := g.live (b := dx) (.inl (by rw [e]; rfl))
      have z' : hh'.get? dx = some ob := z
      rw [hm.newD] at z'; cases z'
  have odx : ow dx = Option.none := by
    cases e : ow dx with
    | none => rfl
    | some o =>
      obtain ⟨ob, z⟩ := g.live (b := dx) (.inr (by rw [e]; rfl))
      have z' : hh'.get? dx = some ob := z
      rw [hm.newD] at z'; cases z'
  -- the ghost owner of the new dict
  let ow' : Nat → Option Nat := fun b => if b = dx then some x else ow b
  have ownU : ∀ b, Own (upd σ x (.inst c [])) ow' b → Own σ ow b ∨ b = x ∨ b = dx := fun b q => by
    by_cases z1 : b = x
    · exact .inr (.inl z1)
    · by_cases z2 : b = dx
      · exact .inr (.inr z2)
      · rcases q with q | q
        · rw [upd_ne σ _ z1] at q; exact .inl (.inl q)
        · exact .inl (.inr (by simpa [ow', z2] using q))
  have ownG : ∀ b, Own σ ow b → Own (upd σ x (.inst c [])) ow' b := fun b q => by
    rcases q with q | q
    · by_cases z1 : b = x
      · subst z1; rw [sx] at q; cases q
      · exact .inl (by rw [upd_ne σ _ z1]; exact q)
    · by_cases z2 : b = dx
      · subst z2; rw [odx] at q; cases q
      · exact .inr (by simpa [ow', z2] using q)
  have zg : Zg (Zs σ ow (zss envs)) (Zs (upd σ x (.inst c [])) ow' (zss envs)) hh' := fun b q => by
    rcases q with q | q
    · rcases ownU b q with q | q | q
      · exact .inl (.inl q)
      · subst q; exact .inr hm.newX
      · subst q; exact .inr hm.newD
    · exact .inl (.inr q)
  have st : Stp (frs envs) (Own σ ow) (Own (upd σ x (.inst c [])) ow') ⟨hh', gg, dd', tt, oo⟩ ⟨h', gg, dd', tt, oo⟩ := by
    refine ⟨fun b o e _ _ => hm.keeps b o e, fun b o e _ => ⟨o.slots, hm.keeps b o e⟩, ownG, fun b q => ?_, rfl, rfl, rfl⟩
    rcases ownU b q with q | q | q
    · exact .inl q
    · subst q; exact .inr hm.newX
    · subst q; exact .inr hm.newD
  have bn : ∀ b, hh'.get? b = Option.none → C.base.get? b = Option.none := fun b e => by
    cases z : C.base.get? b with
    | none => rfl
    | some o => have := g.stays b o z; have : hh'.get? b = some o := this; rw [e] at this; cases this
  have gd : Good C envs (upd σ x (.inst c [])) ow' ⟨h', gg, dd', tt, oo⟩ := by
    refine ⟨fun b o e => hm.keeps b o (g.stays b o e), g.frames.of_keeps fun b o e _ => ⟨o, hm.keeps b o e, rfl⟩, g.apart, fun b m => ⟨(g.mem b m).1, (g.mem b m).2.imp fun o e => hm.keeps b o e⟩, g.sub, fun b o' e => ?_, fun b a' e => ?_, fun b e => ?_, fun L hL q => ?_, g.gens⟩
    · by_cases z : b = x
      · subst z
        rw [upd_self] at e
        cases e
        exact ⟨o, dx, _, i1, i2, i3, hm.dict o i1, nd, by simp [ow'], ns1, ⟨hci, by simp⟩, fun f v e => by simp [lookF] at e, fun y hy => absurd rfl hy⟩
      · rw [upd_ne σ _ z] at e
        have y := g.store b o' e
        obtain ⟨oa, ea⟩ := Option.isSome_iff_exists.mp y.live
        exact y.kp (fun b o e _ => hm.keeps b o e) zg (by rw [ea]; exact hm.keeps b oa ea) fun dx' hd => by
          obtain ⟨od, ed⟩ := Option.isSome_iff_exists.mp (g.parts dx' b hd).2.2
          refine ⟨by rw [ed]; exact hm.keeps dx' od ed, ?_⟩
          have : dx' ≠ dx := fun w => by subst w; rw [odx] at hd; cases hd
          simpa [ow', this] using hd
    · by_cases z : b = dx
      · subst z
        refine ⟨by rw [upd_ne σ _ nd]; exact sdx, bn _ hm.newD, ?_⟩
        obtain ⟨_, _, _, z, _⟩ := ns1
        show (h'.get? b).isSome = true
        rw [z]; rfl
      · have e' : ow b = some a' := by simpa [ow', z] using e
        obtain ⟨x1, x2, x3⟩ := g.parts b a' e'
        obtain ⟨od, ed⟩ := Option.isSome_iff_exists.mp x3
        refine ⟨?_, x2, by show (h'.get? b).isSome = true; rw [hm.keeps b od ed]; rfl⟩
        rw [upd_ne σ _ (fun q => by subst q; have ed' : hh'.get? b = some od := ed; rw [hm.newX] at ed'; cases ed')]
        exact x1
    · by_cases z : b = x
      · subst z; exact bn _ hm.newX
      · rw [upd_ne σ _ z] at e; exact g.fresh b e
    · rcases ownU L q with q | q | q
      · exact g.off L hL q
      · subst q; exact noF _ hm.newX hL
      · subst q; exact noF _ hm.newD hL
  obtain ⟨u1, u2, u3, u4⟩ := under_make A (C.clsA c) vals
  refine call_snd (envs := envs) (vs := .obj x :: vs) hF (w x sx) gd ⟨?_, ?_, ?_⟩ ?_ (.cons (.obj x) (st.vrs r)) ?_ ?_
  · rw [u1]; exact a.frames
  · rw [u2]; have := a.depth; omega
  · rw [u3]; have := a.units; omega
  · have h2 := hh.stp st
    unfold HOk at h2 ⊢
    rw [u4]; exact h2
  · intro v av σ'' ow'' s'' h1 h2 h3 h4
    cases h4 <;> first | exact False.elim h1 | skip
    exact ⟨rfl, kv _ _ σ'' ow'' s'' h1 (st.trans h2) h3 (.obj x)⟩
  · exact kx.stp st gd
end
end Ap
end
section
set_option Elab.async false
set_option linter.unusedVariables false
set_option linter.unusedSimpArgs false
namespace Ap
open PySem PySem.Calls PyProof.Rows
section
variable {C : Cx} {T : Tabs} {P : Prg} {A : Around} {q : Bool} {env : Env} {envs : Vo} {nms : List Str} {ρ : Loc} {σ : St} {ow : Nat → Option Nat} {s : Shared} {Qa : PQ} {Ea : PE} {Q : Value → Shared → Prop} {E : Value → Shared → Prop}
def tyV : Ty → Value
  | .int => .type "int"
  | .bool => .type "bool"
  | .str => .type "str"
  | .list => .type "list"
  | .tuple => .type "tuple"
theorem isi_snd {t : Ty} {v : AV} {u : Value} (r : VR C (Zs σ ow (zss envs)) s.heap v u) (w : oIsi t v σ Qa) (h : ∀ tk, Qa (.bool (isTy t v)) σ → Q (.bool (isTy t v)) { s with toks := tk }) : wpAny (model C.prog C.w) A (call (.builtin "isinstance") [u, tyV t]) Q E s := by
  obtain ⟨p, w⟩ := w
  have h' := fun tk => h tk w
  cases r with
  | none => cases t <;> first | exact IsiPair.NoneType_int (h' _) | exact IsiPair.NoneType_bool (h' _) | exact IsiPair.NoneType_str (h' _) | exact IsiPair.NoneType_list (h' _) | exact IsiPair.NoneType_tuple (h' _)
  | bool b => cases t <;> first | exact IsiPair.bool_int (h' _) | exact IsiPair.bool_bool (h' _) | exact IsiPair.bool_str (h' _) | exact IsiPair.bool_list (h' _) | exact IsiPair.bool_tuple (h' _)
  | int i _ => cases t <;> first | exact IsiPair.int_int (h' _) | exact IsiPair.int_bool (h' _) | exact IsiPair.int_str (h' _) | exact IsiPair.int_list (h' _) | exact IsiPair.int_tuple (h' _)
  | str x _ _ => cases t <;> first | exact IsiPair.str_int (h' _) | exact IsiPair.str_bool (h' _) | exact IsiPair.str_str (h' _) | exact IsiPair.str_list (h' _) | exact IsiPair.str_tuple (h' _)
  | ilist at_ off r =>
    obtain ⟨_, n, hx⟩ := at_
    cases t <;> first | exact IsiPair.list_int hx rfl (h' _) | exact IsiPair.list_bool hx rfl (h' _) | exact IsiPair.list_str hx rfl (h' _) | exact IsiPair.list_list hx rfl (h' _) | exact IsiPair.list_tuple hx rfl (h' _)
  | tup at_ off r =>
    obtain ⟨_, n, hx⟩ := at_
    cases t <;> first | exact IsiPair.tuple_int hx rfl (h' _) | exact IsiPair.tuple_bool hx rfl (h' _) | exact IsiPair.tuple_str hx rfl (h' _) | exact IsiPair.tuple_list hx rfl (h' _) | exact IsiPair.tuple_tuple hx rfl (h' _)
  | obj a => cases p
  | exn a b c d e f => cases p
end
end Ap
end
section
set_option Elab.async false
set_option genSizeOf false
set_option linter.unusedVariables false
set_option linter.unusedSimpArgs false
namespace Ap
open PySem PySem.Calls PyProof.Rows
structure Xc (fs : List Addr) (e : Addr) (t : Option (Addr × Value)) (h h' : Heap) : Prop where
  keep : ∀ b o, h.get? b = some o → b ∉ fs → ((b ≠ e ∧ ∀ fl, t ≠ some (b, fl)) ∨ ∀ vs, o.data ≠ .fields vs) → h'.get? b = some o
  frm : ∀ b o, h.get? b = some o → (∀ vs, o.data ≠ .fields vs) → ∃ sl, h'.get? b = some { o with slots := sl }
  fld : ∀ b o vs, h.get? b = some o → o.data = .fields vs → ∃ o' vs', h'.get? b = some o' ∧ o'.cls = o.cls ∧ o'.dict = o.dict ∧ o'.data = .fields vs' ∧ vs'[2]? = vs[2]?
theorem Xc.refl (fs : List Addr) (e : Addr) (t : Option (Addr × Value)) (h : Heap) : Xc fs e t h h := ⟨fun _ _ e _ _ => e, fun _ o e _ => ⟨o.slots, e⟩, fun _ o vs e d => ⟨o, vs, e, rfl, rfl, d, rfl⟩⟩
theorem Xc.live {fs : List Addr} {e : Addr} {t : Option (Addr × Value)} {h h' : Heap} (x : Xc fs e t h h') {b : Addr} {o : Obj} (eb : h.get? b = some o) : ∃ o', h'.get? b = some o' := by
  by_cases q : ∃ vs, o.data = .fields vs
  · obtain ⟨vs, d⟩ := q
    obtain ⟨o', _, z, _⟩ := x.fld b o vs eb d
    exact ⟨o', z⟩
  · obtain ⟨sl, z⟩ := x.frm b o eb fun vs d => q ⟨vs, d⟩
    exact ⟨_, z⟩
section
variable {M : Model} {A : Around} {E : Value → Shared → Prop} {s : Shared} {env : Env}
theorem upd_fields {h : Heap} {a : Addr} {o : Obj} {vs : Array Value} (i : Nat) (x : Value) (ho : h.get? a = some o) (hd : o.data = .fields vs) :
    (h.update a (Obj.mapFields (·.setIfInBounds i x))).get? a = some { o with data := .fields (vs.setIfInBounds i x) } ∧ ∀ b, b ≠ a → (h.update a (Obj.mapFields (·.setIfInBounds i x))).get? b = h.get? b := by
  have hd' := Obj.data_mapFields hd (·.setIfInBounds i x)
  refine ⟨?_, fun b hb => Heap.get?_update_other _ _ (Ne.symm hb)⟩
  rw [Heap.get?_update_self (Obj.mapFields (·.setIfInBounds i x)) ho (Obj.isFreed_of_fields hd')]
  obtain ⟨c1, c2, c3, c4⟩ := o
  simp only at hd
  subst hd
  rfl
theorem flight_low {e T : Addr} {cls fl : Value} {f : Option Addr} {Q : Unit → Shared → Prop} (x : ExO s.heap e cls (some (T, fl)))
    (h : ∀ h', Xc [] e (some (T, fl)) s.heap h' → ExO h' e cls (some (T, f.elim .none fun f => rawInt f)) → Q () { s with heap := h' }) : wpAny M A (setFlight (.ref e) f) Q E s := by
  obtain ⟨oe, vs, a0, x1, x2, x3, x4, x5, x6, x7, x8, oT, ts, x9, x10, x11⟩ := x
  unfold setFlight
  refine wpAny_bind (wpAny_field x1 x4 x7 ?_)
  rw [if_pos (show (Value.ref T != Value.none) = true from by simp)]
  have h3 := (Array.getElem?_eq_some_iff.mp x11).1
  refine wpAny_setField x9 x10 h3 ?_
  obtain ⟨u1, u2⟩ := upd_fields 3 (f.elim Value.none fun f => rawInt f) x9 x10
  have ne : ∀ b o, s.heap.get? b = some o → (∀ vs, o.data ≠ .fields vs) → b ≠ T := fun b o eb nd q => by subst q; rw [x9] at eb; cases eb; exact nd _ x10
  refine h _ ⟨fun b o eb _ nb => (u2 b (nb.elim (fun nb q => nb.2 fl (by rw [q])) (ne b o eb))).trans eb, fun b o eb nd => ⟨o.slots, (u2 b (ne b o eb nd)).trans eb⟩, fun b o ws eb db => ?_⟩ ⟨oe, vs, a0, (u2 e (Ne.symm x8)).trans x1, x2, x3, x4, x5, x6, x7, x8, _, _, u1, rfl, by simp [h3]⟩
  by_cases q : b = T
  · subst q
    rw [x9] at eb
    cases eb
    rw [x10] at db
    cases db
    exact ⟨_, _, u1, rfl, rfl, rfl, by simp⟩
  · exact ⟨o, ws, (u2 b q).trans eb, rfl, rfl, db, rfl⟩
theorem note_low {base : Heap} {outer : List Env} {L e : Addr} {cls : Value} {t : Option (Addr × Value)} {Q : Unit → Shared → Prop}
    (hfr : A.frames = some (env :: outer)) (hl : s.heap.FunFrames base (env :: outer)) (hf : env.frame = some L) (x : ExO s.heap e cls t)
    (h : ∀ h' T', Xc ((env :: outer).filterMap (·.frame)) e t s.heap h' → ExO h' e cls (some (T', rawInt L)) → (s.heap.get? T' = Option.none ∨ ∃ fl, t = some (T', fl)) → Q () { s with heap := h' }) :
    wpAny M A (noteFrame (.ref e) env) Q E s := by
  have entry : ∀ (s₁ : Shared) (oe : Obj) (vs : Array Value) (head a0 : Value) (b : Bool) (Q' : Unit → Shared → Prop), s₁.heap.FunFrames base (env :: outer) → s₁.heap.get? e = some oe → oe.data = .fields vs → 1 < vs.size →
      (∀ h', (∀ b o, s₁.heap.get? b = some o → b ≠ e → b ∉ (env :: outer).filterMap (·.frame) → h'.get? b = some o) → (∀ b o, s₁.heap.get? b = some o → b ∈ (env :: outer).filterMap (·.frame) → ∃ sl, h'.get? b = some { o with slots := sl }) →
        (∃ T' oT ts, s₁.heap.get? T' = Option.none ∧ T' ≠ e ∧ h'.get? e = some { oe with data := .fields (vs.setIfInBounds 1 (.ref T')) } ∧ h'.get? T' = some oT ∧ oT.data = .fields ts ∧ ts[3]? = some (rawInt L)) → Q' () { s₁ with heap := h' }) →
      wpAny M A (do setField (.ref e) 1 (← EntryCells.newEntry head (← frameOf env) .none (rawInt L) .none (← entryPlaceOf L b))) Q' E s₁ := by
    intro s₁ oe vs head a0 b Q' hl he hd hsz hQ
    have hene : e ∉ (env :: outer).filterMap (·.frame) := fun hm => by
      obtain ⟨_, o, ho, hnf⟩ := hl.mem hm
      rw [he] at ho; injection ho with ho; subst ho; exact hnf vs hd
    refine wpAny_bind (wpAny_frameOf_fun hfr hl hf fun h₁ hs₁ => ?_)
    refine wpAny_bind (wpAny_entryPlaceOf fun pl hpl => ?_)
    unfold EntryCells.newEntry newFields
    refine wpAny_bind (wpAny_newObj_type ?_ (hpl.sizeOk5 _ _ _ _ _))
    have he₁ : h₁.get? e = some oe := (hs₁.2.1 e hene).trans he
    have he₂ := Heap.get?_push_of_some (h := h₁) { cls := .type "traceback", dict := none, data := .fields ([head, .ref L, .none, rawInt L, .none] ++ (if pl.isEmpty then List.replicate 6 Value.none else pl)).toArray } he₁
    refine wpAny_setField he₂ hd hsz ?_
    have hTe : h₁.objs.size ≠ e := Nat.ne_of_gt (Heap.lt_size he₁)
    obtain ⟨u1, u2⟩ := upd_fields 1 (Value.ref h₁.objs.size) he₂ hd
    refine hQ _ (fun b o eb ne nf => ?_) (fun b o eb m => ?_) ⟨h₁.objs.size, _, _, ?_, hTe, u1, (u2 _ hTe).trans (Heap.get?_push_size h₁ rfl), rfl, ?_⟩
    · exact (u2 b ne).trans (Heap.get?_push_of_some _ ((hs₁.2.1 b nf).trans eb))
    · obtain ⟨sl, hs⟩ := hs₁.2.2 b o eb
      exact ⟨sl, (u2 b fun q => hene (q ▸ m)).trans (Heap.get?_push_of_some _ hs)⟩
    · cases z : s₁.heap.get? h₁.objs.size with
      | none => rfl
      | some o =>
        obtain ⟨sl, hs⟩ := hs₁.2.2 _ o z
        exact absurd (Heap.lt_size hs) (Nat.lt_irrefl _)
    · rcases hpl with rfl | ⟨_, _, _, _, _, _, _, rfl⟩ <;> simp
  obtain ⟨oe, vs, a0, x1, x2, x3, x4, x5, x6, x7⟩ := x
  unfold noteFrame
  simp only [hf]
  cases t with
  | none =>
    refine wpAny_bind (wpAny_field x1 x4 x7 ?_)
    rw [if_neg (by decide)]
    have hsz := (Array.getElem?_eq_some_iff.mp x7).1
    refine entry s oe vs .none a0 _ Q hl x1 x4 hsz fun h' k1 k2 ⟨T', oT, ts, y1, y2, y3, y4, y5, y6⟩ => ?_
    have ne : ∀ b o, s.heap.get? b = some o → (∀ vs, o.data ≠ .fields vs) → b ≠ e := fun b o eb nd q => by subst q; rw [x1] at eb; cases eb; exact nd _ x4
    refine h h' T' ⟨fun b o eb nf nb => k1 b o eb (nb.elim (fun z => z.1) (ne b o eb)) nf, fun b o eb nd => ?_, fun b o ws eb db => ?_⟩ ⟨_, _, a0, y3, x2, x3, rfl, by simpa using x5, by simpa using x6, by simp [hsz], y2, oT, ts, y4, y5, y6⟩ (.inl y1)
    · by_cases m : b ∈ (env :: outer).filterMap (·.frame)
      · exact k2 b o eb m
      · exact ⟨o.slots, k1 b o eb (ne b o eb nd) m⟩
    by_cases q : b = e
    · subst q
      rw [x1] at eb
      cases eb
      rw [x4] at db
      cases db
      exact ⟨_, _, y3, rfl, rfl, rfl, by simp⟩
    · by_cases m : b ∈ (env :: outer).filterMap (·.frame)
      · obtain ⟨_, o', ho', hnf⟩ := hl.mem m
        rw [eb] at ho'
        cases ho'
        exact absurd db (hnf ws)
      · exact ⟨o, ws, k1 b o eb q m, rfl, rfl, db, rfl⟩
  | some p =>
    obtain ⟨T, fl⟩ := p
    obtain ⟨x7, x8, oT, ts, x9, x10, x11⟩ := x7
    refine wpAny_bind (wpAny_field x1 x4 x7 ?_)
    rw [if_pos (show (Value.ref T != Value.none) = true from by simp)]
    refine wpAny_bind (wpAny_field x9 x10 x11 ?_)
    by_cases hq : (fl == rawInt L) = true
    · rw [if_pos hq]
      rw [beq_iff_eq] at hq
      subst hq
      exact wpAny_pure (h s.heap T (Xc.refl _ _ _ _) ⟨oe, vs, a0, x1, x2, x3, x4, x5, x6, x7, x8, oT, ts, x9, x10, x11⟩ (.inr ⟨_, rfl⟩))
    · rw [if_neg hq]
      have h3 := (Array.getElem?_eq_some_iff.mp x11).1
      have hsz := (Array.getElem?_eq_some_iff.mp x7).1
      refine wpAny_bind (wpAny_setField x9 x10 h3 ?_)
      obtain ⟨u1, u2⟩ := upd_fields 3 Value.none x9 x10
      have hl' : (s.heap.update T (Obj.mapFields (·.setIfInBounds 3 Value.none))).FunFrames base (env :: outer) := hl.of_keeps fun b o hb hnf => ⟨o, (u2 b fun q => by subst q; rw [x9] at hb; cases hb; exact hnf _ x10).trans hb, rfl⟩
      refine entry { s with heap := s.heap.update T (Obj.mapFields (·.setIfInBounds 3 Value.none)) } oe vs (.ref T) a0 _ Q hl' ((u2 e (Ne.symm x8)).trans x1) x4 hsz fun h' k1 k2 ⟨T', oT', ts', y1, y2, y3, y4, y5, y6⟩ => ?_
      have nTf : T ∉ (env :: outer).filterMap (·.frame) := fun hm => by
        obtain ⟨_, o, ho, hnf⟩ := hl.mem hm
        rw [x9] at ho; injection ho with ho; subst ho; exact hnf ts x10
      have sT : h'.get? T = some { oT with data := .fields (ts.setIfInBounds 3 Value.none) } := k1 T _ u1 x8 nTf
      have ne : ∀ b o, s.heap.get? b = some o → (∀ vs, o.data ≠ .fields vs) → b ≠ e ∧ b ≠ T := fun b o eb nd => ⟨fun q => by subst q; rw [x1] at eb; cases eb; exact nd _ x4, fun q => by subst q; rw [x9] at eb; cases eb; exact nd _ x10⟩
      have keepB : ∀ b o, s.heap.get? b = some o → b ≠ e → b ≠ T → b ∉ (env :: outer).filterMap (·.frame) → h'.get? b = some o := fun b o eb n1 n2 nf => k1 b o ((u2 b n2).trans eb) n1 nf
      refine h h' T' ⟨fun b o eb nf nb => nb.elim (fun z => keepB b o eb z.1 (fun q => z.2 fl (by rw [q])) nf) fun z => keepB b o eb (ne b o eb z).1 (ne b o eb z).2 nf, fun b o eb nd => ?_, fun b o ws eb db => ?_⟩ ⟨_, _, a0, y3, x2, x3, rfl, by simpa using x5, by simpa using x6, by simp [hsz], y2, oT', ts', y4, y5, y6⟩ (.inl ?_)
      · by_cases m : b ∈ (env :: outer).filterMap (·.frame)
        · exact k2 b o ((u2 b (ne b o eb nd).2).trans eb) m
        · exact ⟨o.slots, keepB b o eb (ne b o eb nd).1 (ne b o eb nd).2 m⟩
      · by_cases q : b = e
        · subst q
          rw [x1] at eb
          cases eb
          rw [x4] at db
          cases db
          exact ⟨_, _, y3, rfl, rfl, rfl, by simp⟩
        · by_cases q' : b = T
          · subst q'
            rw [x9] at eb
            cases eb
            rw [x10] at db
            cases db
            exact ⟨_, _, sT, rfl, rfl, rfl, by simp⟩
          · by_cases m : b ∈ (env :: outer).filterMap (·.frame)
            · obtain ⟨_, o', ho', hnf⟩ := hl.mem m
              rw [eb] at ho'
              cases ho'
              exact absurd db (hnf ws)
            · exact ⟨o, ws, k1 b o ((u2 b q').trans eb) q m, rfl, rfl, db, rfl⟩
      · by_cases q : T' = T
        · subst q
          have y1' : (s.heap.update T' (Obj.mapFields (·.setIfInBounds 3 Value.none))).get? T' = Option.none := y1
          rw [u1] at y1'; cases y1'
        · have y1' : (s.heap.update T (Obj.mapFields (·.setIfInBounds 3 Value.none))).get? T' = Option.none := y1
          rw [u2 T' q] at y1'; exact y1'
end
end Ap
end
section
set_option Elab.async false
set_option genSizeOf false
set_option linter.unusedVariables false
set_option linter.unusedSimpArgs false
namespace Ap
open PySem PySem.Calls PyProof.Rows
structure SStp (X fs : List Addr) (O O' : Nat → Prop) (s s' : Shared) : Prop where
  keep : ∀ b o, s.heap.get? b = some o → ¬ O b → b ∉ fs → s'.heap.get? b = some o
  frm : ∀ b o, s.heap.get? b = some o → b ∈ fs → b ∉ X → ∃ sl, s'.heap.get? b = some { o with slots := sl }
  liv : ∀ b o, s.heap.get? b = some o → b ∈ fs → ∃ o', s'.heap.get? b = some o'
  grow : ∀ b, O b → O' b
  fresh : ∀ b, O' b → O b ∨ s.heap.get? b = Option.none
  gens : s'.gens = s.gens
  drawn : s'.drawn = s.drawn
  os : s'.os = s.os
theorem Stp.toS {X fs : List Addr} {O O' : Nat → Prop} {s s' : Shared} (x : Stp fs O O' s s') : SStp X fs O O' s s' :=
  ⟨x.keep, fun b o e m _ => x.frm b o e m, fun b o e m => (x.frm b o e m).elim fun _ z => ⟨_, z⟩, x.grow, x.fresh, x.gens, x.drawn, x.os⟩
theorem SStp.refl (X fs : List Addr) (O : Nat → Prop) (s : Shared) : SStp X fs O O s s := (Stp.refl fs O s).toS
theorem SStp.trans {X fs : List Addr} {O₁ O₂ O₃ : Nat → Prop} {s₁ s₂ s₃ : Shared} (x : SStp X fs O₁ O₂ s₁ s₂) (y : SStp X fs O₂ O₃ s₂ s₃) : SStp X fs O₁ O₃ s₁ s₃ where
  keep := fun b o e n m => y.keep b o (x.keep b o e n m) (fun q => (x.fresh b q).elim n fun z => by rw [e] at z; cases z) m
  frm := fun b o e m n => by
    obtain ⟨sl, e1⟩ := x.frm b o e m n
    obtain ⟨sl', e2⟩ := y.frm b _ e1 m n
    exact ⟨sl', e2⟩
  liv := fun b o e m => by
    obtain ⟨o', e1⟩ := x.liv b o e m
    exact y.liv b _ e1 m
  grow := fun b z => y.grow b (x.grow b z)
  fresh := fun b z => by
    by_cases q : O₁ b
    · exact .inl q
    · refine .inr ?_
      rcases y.fresh b z with z | z
      · exact (x.fresh b z).elim (fun w => absurd w q) id
      · cases e : s₁.heap.get? b with
        | none => rfl
        | some o =>
          by_cases m : b ∈ fs
          · obtain ⟨sl, e1⟩ := x.liv b o e m
            rw [e1] at z; cases z
          · rw [x.keep b o e q m] at z; cases z
  gens := y.gens.trans x.gens
  drawn := y.drawn.trans x.drawn
  os := y.os.trans x.os
theorem SStp.kp {X fs zs : List Addr} {O O' : Nat → Prop} {s s' : Shared} (x : SStp X fs O O' s s') (hs : ∀ b ∈ fs, b ∈ zs) : Kp (fun b => O b ∨ b ∈ zs) s.heap s'.heap := fun b o e n => x.keep b o e (fun q => n (.inl q)) fun q => n (.inr (hs b q))
theorem SStp.zg {X fs zs : List Addr} {O O' : Nat → Prop} {s s' : Shared} (x : SStp X fs O O' s s') : Zg (fun b => O b ∨ b ∈ zs) (fun b => O' b ∨ b ∈ zs) s.heap := fun b q => by
  rcases q with q | q
  · exact (x.fresh b q).imp .inl id
  · exact .inl (.inr q)
theorem SStp.vr {C : Cx} {X : List Addr} {envs : Vo} {σ σ' : St} {ow ow' : Nat → Option Nat} {s s' : Shared} (x : SStp X envs.fs (Own σ ow) (Own σ' ow') s s') {v : AV} {u : Value} (r : VR C (Zs σ ow (zss envs)) s.heap v u) : VR C (Zs σ' ow' (zss envs)) s'.heap v u := r.kp (x.kp envs.sub) x.zg
theorem SStp.vrs {C : Cx} {X : List Addr} {envs : Vo} {σ σ' : St} {ow ow' : Nat → Option Nat} {s s' : Shared} (x : SStp X envs.fs (Own σ ow) (Own σ' ow') s s') {v : List AV} {u : List Value} (r : VRs C (Zs σ ow (zss envs)) s.heap v u) : VRs C (Zs σ' ow' (zss envs)) s'.heap v u := r.kp (x.kp envs.sub) x.zg
theorem SStp.back {X fs : List Addr} {C : Cx} {σ σ' : St} {ow ow' : Nat → Option Nat} {s s' : Shared} (x : SStp X fs (Own σ ow) (Own σ' ow') s s') {envs : Vo} (g' : Good C envs σ' ow' s') (b : Addr) (n : s'.heap.get? b = Option.none) : s.heap.get? b = Option.none := by
  cases e : s.heap.get? b with
  | none => rfl
  | some o =>
    exfalso
    by_cases q : Own σ ow b
    · obtain ⟨ob, z⟩ := g'.live (x.grow b q)
      rw [n] at z; cases z
    · by_cases m : b ∈ fs
      · obtain ⟨o', z⟩ := x.liv b o e m
        rw [n] at z; cases z
      · rw [x.keep b o e q m] at n; cases n
theorem HOk.sstp {A : Around} {q : Bool} {X : List Addr} {envs : Vo} {σ σ' : St} {ow ow' : Nat → Option Nat} {s s' : Shared} (x : SStp X envs.fs (Own σ ow) (Own σ' ow') s s') (h : HOk A q (Zs σ ow (zss envs)) s.heap) : HOk A q (Zs σ' ow' (zss envs)) s'.heap := by
  rcases h with h | ⟨hq, e, o, vs, h1, h2, h3, h4, h5⟩
  · exact .inl h
  · exact .inr ⟨hq, e, o, vs, h1, x.kp envs.sub _ _ h2 h5, h3, h4, x.zg.not h2 h5⟩
structure FEnv (env : Env) (nms : List Str) (envs : Vo) (outer : List Env) : Prop where
  l : envs.l = env :: outer
  kind : env.scope.kind = .function
  frame : env.frame = some env.locals
  inF : env.locals ∈ envs.fs
  cel : ∀ x c, env.cells.lookup x = some c → c ∈ envs.fs ∧ c ≠ env.locals
  apart : ∀ x y c, env.cells.lookup x = some c → env.cells.lookup y = some c → x = y
  nodup : nms.Nodup
  kinds : ∀ x ∈ nms, env.kindOf x = some .local ∨ env.kindOf x = some .cell ∧ ∃ c, env.cells.lookup x = some c
abbrev ownX (env : Env) : List Addr := env.locals :: env.cells.map (·.2)
structure SOk (C : Cx) (A : Around) (q : Bool) (env : Env) (envs : Vo) (nms : List Str) (ρ : Loc) (σ : St) (ow : Nat → Option Nat) (s : Shared) : Prop where
  ok : Ok C A q env envs nms ρ σ ow s
  ns : ∃ m, s.heap.Ns env.locals m
  cells : ∀ x c, env.cells.lookup x = some c → ∃ v, s.heap.IsCell c v
inductive RF (C : Cx) (Z : Nat → Prop) (h : Heap) : Fl → Flow → Prop
  | next : RF C Z h .next .next
  | ret {v : AV} {u : Value} (r : VR C Z h v u) : RF C Z h (.ret v) (.ret u)
def KS (C : Cx) (A : Around) (q : Bool) (env : Env) (envs : Vo) (nms : List Str) (σ : St) (ow : Nat → Option Nat) (s : Shared) (Qa : QS) (Q : Flow → Shared → Prop) : Prop :=
  ∀ fl af ρ' σ' ow' s', Qa af ρ' σ' → SStp (ownX env) envs.fs (Own σ ow) (Own σ' ow') s s' → SOk C A q env envs nms ρ' σ' ow' s' → RF C (Zs σ' ow' (zss envs)) s'.heap af fl → Q fl s'
def KXS (C : Cx) (A : Around) (q : Bool) (env : Env) (envs : Vo) (nms : List Str) (σ : St) (ow : Nat → Option Nat) (s : Shared) (Ea : ES) (E : Value → Shared → Prop) : Prop :=
  ∀ e c ρ' σ' ow' s', Ea c ρ' σ' → SStp (ownX env) envs.fs (Own σ ow) (Own σ' ow') s s' → SOk C A q env envs nms ρ' σ' ow' s' → ThrS C env.locals (Zs σ' ow' (zss envs)) s.heap e c s'.heap → E (.ref e) s'
def SndS (C : Cx) (A : Around) (q : Bool) (env : Env) (envs : Vo) (nms : List Str) (t : Sem Flow) (W : Loc → St → QS → ES → Prop) : Prop :=
  ∀ ρ σ ow s Qa Ea Q E, W ρ σ Qa Ea → SOk C A q env envs nms ρ σ ow s → KS C A q env envs nms σ ow s Qa Q → KXS C A q env envs nms σ ow s Ea E → wpAny (model C.prog C.w) A t Q E s
section
variable {C : Cx} {A : Around} {q : Bool} {env : Env} {envs : Vo} {nms : List Str} {ρ : Loc} {σ σ' : St} {ow ow' : Nat → Option Nat} {s s' : Shared} {outer : List Env}
theorem KS.stp {Qa : QS} {Q : Flow → Shared → Prop} (x : SStp (ownX env) envs.fs (Own σ ow) (Own σ' ow') s s') (k : KS C A q env envs nms σ ow s Qa Q) : KS C A q env envs nms σ' ow' s' Qa Q :=
  fun fl af ρ' σ'' ow'' s'' a y g r => k fl af ρ' σ'' ow'' s'' a (x.trans y) g r
theorem KXS.stp {Ea : ES} {E : Value → Shared → Prop} (x : SStp (ownX env) envs.fs (Own σ ow) (Own σ' ow') s s') (g : Good C envs σ' ow' s') (k : KXS C A q env envs nms σ ow s Ea E) : KXS C A q env envs nms σ' ow' s' Ea E :=
  fun e c ρ' σ'' ow'' s'' a y g' t => k e c ρ' σ'' ow'' s'' a (x.trans y) g' (ThrA.up (x.back g) t)
theorem SOk.stp (F : FEnv env nms envs outer) (k : SOk C A q env envs nms ρ σ ow s) (x : Stp (frs envs) (Own σ ow) (Own σ' ow') s s') (g : Good C envs σ' ow' s') : SOk C A q env envs nms ρ σ' ow' s' where
  ok := k.ok.stp x g
  ns := k.ns.imp fun m h => Ns.slots (x.up (fun q => k.ok.good.off _ (envs.sub _ F.inF) q)) h
  cells := fun y c hc => by
    obtain ⟨v, o, e, d⟩ := k.cells y c hc
    obtain ⟨sl, e'⟩ := x.up (fun q => k.ok.good.off _ (envs.sub _ (F.cel y c hc).1) q) o e
    exact ⟨v, _, e', d⟩
theorem KXS.toE (F : FEnv env nms envs outer) (k : SOk C A q env envs nms ρ σ ow s) {Ea : ES} {E : Value → Shared → Prop} (kx : KXS C A q env envs nms σ ow s Ea E) : KX C envs σ ow s (fun c σ' => Ea c ρ σ') E :=
  fun e c σ' ow' s' a x g t => kx e c ρ σ' ow' s' a x.toS (k.stp F x g) (t.mono (fun _ z => .inl z) fun _ z => z)
theorem Good.touch {h' : Heap} {d : Addr} (G : Good C envs σ ow s) (hd : d ∈ envs.fs) (k : ∀ b ob, b ≠ d → s.heap.get? b = some ob → h'.get? b = some ob) (kl : ∃ o, h'.get? d = some o ∧ ∀ vs, o.data ≠ .fields vs) (t : Nat) : Good C envs σ ow { s with heap := h', toks := t } := by
  have hO : ¬ Own σ ow d := G.off d (envs.sub _ hd)
  have hK : Kp (Zs σ ow (zss envs)) s.heap h' := fun b ob e n => k b ob (fun q => n (.inr (envs.sub _ (q ▸ hd)))) e
  have hE : ∀ b, (s.heap.get? b).isSome = true → b ≠ d → h'.get? b = s.heap.get? b := fun b hl nd => by
    obtain ⟨ob, e⟩ := Option.isSome_iff_exists.mp hl
    rw [e]; exact k b ob nd e
  refine ⟨fun b ob e => ?_, ?_, G.apart, fun b m => ?_, G.sub, fun b o' e => ?_, fun b c e => ?_, G.fresh, G.off, G.gens⟩
  · exact k b ob (fun q => by subst q; rw [(G.mem _ (envs.sub _ hd)).1] at e; cases e) (G.stays b ob e)
  · have : ∀ l : List Env, s.heap.FunFrames C.base l → h'.FunFrames C.base l := by
      intro l
      induction l with
      | nil => intro _; trivial
      | cons env r ih =>
        rintro ⟨hk, ⟨L, ob, hf, hb, ho, hdt⟩, hr⟩
        by_cases q : L = d
        · subst q
          obtain ⟨o', e1, e2⟩ := kl
          exact ⟨hk, ⟨_, o', hf, hb, e1, e2⟩, ih hr⟩
        · exact ⟨hk, ⟨L, ob, hf, hb, k L ob q ho, hdt⟩, ih hr⟩
    exact this envs.l G.frames
  · obtain ⟨x, ob, e⟩ := G.mem b m
    by_cases q : b = d
    · subst q
      obtain ⟨o', e1, _⟩ := kl
      exact ⟨x, o', e1⟩
    · exact ⟨x, ob, k b ob q e⟩
  · have nb : b ≠ d := fun z => hO (z ▸ .inl (by rw [e]; rfl))
    exact (G.store b o' e).kp hK (Zg.refl _ _) (hE b (G.store b o' e).live nb) fun dx hdx => ⟨hE dx (G.parts _ _ hdx).2.2 (fun z => hO (z ▸ .inr (by rw [hdx]; rfl))), hdx⟩
  · obtain ⟨x1, x2, x3⟩ := G.parts b c e
    refine ⟨x1, x2, ?_⟩
    show (h'.get? b).isSome = true
    rw [hE b x3 (fun z => hO (z ▸ .inr (by rw [e]; rfl)))]; exact x3
theorem SStp.touch {h' : Heap} {d : Addr} {t : Nat} {X fs : List Addr} (O : Nat → Prop) (hx : d ∈ X) (hd : d ∈ fs) (k : ∀ b ob, b ≠ d → s.heap.get? b = some ob → h'.get? b = some ob) (kl : ∃ o, h'.get? d = some o) : SStp X fs O O s { s with heap := h', toks := t } where
  keep := fun b o e _ m => k b o (fun q => m (q ▸ hd)) e
  frm := fun b o e _ n => ⟨o.slots, k b o (fun q => n (q ▸ hx)) e⟩
  liv := fun b o e _ => by
    by_cases q : b = d
    · subst q; exact kl
    · exact ⟨o, k b o q e⟩
  grow := fun _ x => x
  fresh := fun _ x => .inl x
  gens := rfl
  drawn := rfl
  os := rfl
theorem getL_set {ρ : Loc} {i j : Nat} {v w : AV} (h : getL (setL ρ i v) j = some w) : j = i ∧ w = v ∨ j ≠ i ∧ getL ρ j = some w := by
  unfold getL setL at *
  rw [List.getD_eq_getElem?_getD] at h ⊢
  by_cases q : j = i
  · subst q
    left
    rw [List.getElem?_set] at h
    simp only [if_true] at h
    split at h
    · simp at h; exact ⟨rfl, h.symm⟩
    · simp at h
  · right
    rw [List.getElem?_set_ne (Ne.symm q)] at h
    exact ⟨q, h⟩
theorem store_snd (F : FEnv env nms envs outer) {i : Nat} {x : Str} {v : AV} {u : Value} {Q : Unit → Shared → Prop} {E : Value → Shared → Prop} (hx : nms[i]? = some x) (k : SOk C A q env envs nms ρ σ ow s) (r : VR C (Zs σ ow (zss envs)) s.heap v u)
    (K : ∀ s', SStp (ownX env) envs.fs (Own σ ow) (Own σ ow) s s' → SOk C A q env envs nms (setL ρ i v) σ ow s' → Q () s') : wpAny (model C.prog C.w) A (storeName env x u) Q E s := by
  have hmem : x ∈ nms := List.mem_of_getElem? hx
  have other : ∀ j y, nms[j]? = some y → j ≠ i → y ≠ x := fun j y hy ne e => by
    subst e
    have h1 := List.getElem?_eq_some_iff.mp hy
    have h2 := List.getElem?_eq_some_iff.mp hx
    exact ne ((List.getElem_inj F.nodup).mp (h1.2.trans h2.2.symm))
  rcases F.kinds x hmem with hl | ⟨hl, c, hc⟩
  · obtain ⟨m, hn⟩ := k.ns
    refine wpAny_storeName_local hl hn (fun h' hn' hs => ?_) (by rw [F.kind]; rfl)
    have hk : ∀ b ob, b ≠ env.locals → s.heap.get? b = some ob → h'.get? b = some ob := fun b ob nb e => (hs.2 b nb).trans e
    have hlv : ∃ o, h'.get? env.locals = some o ∧ ∀ vs, o.data ≠ .fields vs := by
      obtain ⟨o, es, ep, ho, hd, _⟩ := hn'
      exact ⟨o, ho, fun vs q => by rw [hd] at q; cases q⟩
    have st : SStp (ownX env) envs.fs (Own σ ow) (Own σ ow) s { s with heap := h', toks := s.toks + 1 } := SStp.touch _ List.mem_cons_self F.inF hk (let ⟨o, e, _⟩ := hlv; ⟨o, e⟩)
    refine K _ st ⟨⟨k.ok.good.touch F.inF hk hlv _, ⟨k.ok.loc.kind, k.ok.loc.glob, k.ok.loc.blt, k.ok.loc.offL, fun j w e => ?_⟩, k.ok.hnd.sstp st, let ⟨o, e, _⟩ := hlv; ⟨o, e⟩⟩, ⟨_, hn'⟩, fun y c hc => ?_⟩
    · rcases getL_set e with ⟨rfl, rfl⟩ | ⟨nj, e⟩
      · exact ⟨x, u, hx, st.vr r, .inl ⟨hl, _, hn', by simp⟩⟩
      · obtain ⟨y, val, ey, ry, ly⟩ := k.ok.loc.val j w e
        refine ⟨y, val, ey, st.vr ry, ?_⟩
        rcases ly with ⟨kd, m', hns, hm⟩ | ⟨c, kd, hc, ⟨o, eo, d⟩, hz⟩
        · refine .inl ⟨kd, _, hn', ?_⟩
          rw [if_neg (other j y ey nj)]
          obtain ⟨o1, es1, ep1, a1, a2, _, a3⟩ := hn
          obtain ⟨o2, es2, ep2, b1, b2, _, b3⟩ := hns
          rw [a1] at b1
          cases b1
          rw [a2] at b2
          cases b2
          rw [← a3, b3]; exact hm
        · exact .inr ⟨c, kd, hc, ⟨o, hk _ _ (F.cel y c hc).2 eo, d⟩, hz⟩
    · obtain ⟨v', o, eo, d⟩ := k.cells y c hc
      exact ⟨v', o, hk _ _ (F.cel y c hc).2 eo, d⟩
  · obtain ⟨v₀, hv⟩ := k.cells x c hc
    refine wpAny_storeName_cell F.kind hl hc hv fun h' hc' hs => ?_
    have hk : ∀ b ob, b ≠ c → s.heap.get? b = some ob → h'.get? b = some ob := fun b ob nb e => (hs.2 b nb).trans e
    have hlv : ∃ o, h'.get? c = some o ∧ ∀ vs, o.data ≠ .fields vs := by
      obtain ⟨o, e, d⟩ := hc'
      exact ⟨o, e, fun vs q => by rw [d] at q; cases q⟩
    have hcx : c ∈ ownX env := List.mem_cons_of_mem _ (List.mem_map.mpr ⟨(x, c), mem_of_lookup hc, rfl⟩)
    obtain ⟨hh, gg, dd, tt, oo⟩ := s
    have st : SStp (ownX env) envs.fs (Own σ ow) (Own σ ow) ⟨hh, gg, dd, tt, oo⟩ { heap := h', gens := gg, drawn := dd, toks := tt, os := oo } := SStp.touch _ hcx (F.cel x c hc).1 hk (let ⟨o, e, _⟩ := hlv; ⟨o, e⟩)
    have nsk : ∀ m, hh.Ns env.locals m → h'.Ns env.locals m := fun m hn => hn.at' fun o e => hk _ _ (Ne.symm (F.cel x c hc).2) e
    have lvL : ∃ o, h'.get? env.locals = some o := by
      obtain ⟨o, e⟩ := k.ok.live
      exact ⟨o, hk _ _ (Ne.symm (F.cel x c hc).2) e⟩
    refine K _ st ⟨⟨k.ok.good.touch (F.cel x c hc).1 hk hlv _, ⟨k.ok.loc.kind, k.ok.loc.glob, k.ok.loc.blt, k.ok.loc.offL, fun j w e => ?_⟩, k.ok.hnd.sstp st, lvL⟩, (let ⟨m, hn⟩ := k.ns; ⟨m, nsk m hn⟩), fun y c' hc'' => ?_⟩
    · rcases getL_set e with ⟨rfl, rfl⟩ | ⟨nj, e⟩
      · exact ⟨x, u, hx, st.vr r, .inr ⟨c, .inl hl, hc, hc', k.ok.good.off _ (envs.sub _ (F.cel x c hc).1)⟩⟩
      · obtain ⟨y, val, ey, ry, ly⟩ := k.ok.loc.val j w e
        refine ⟨y, val, ey, st.vr ry, ?_⟩
        rcases ly with ⟨kd, m', hns, hm⟩ | ⟨c', kd, hc'', ⟨o, eo, d⟩, hz⟩
        · exact .inl ⟨kd, m', nsk m' hns, hm⟩
        · exact .inr ⟨c', kd, hc'', ⟨o, hk _ _ (fun q => other j y ey nj (F.apart y x c (q ▸ hc'') hc)) eo, d⟩, hz⟩
    · by_cases q : c' = c
      · subst q; exact ⟨_, hc'⟩
      · obtain ⟨v', o, eo, d⟩ := k.cells y c' hc''
        exact ⟨v', o, hk _ _ q eo, d⟩
end
end Ap
end
section
set_option Elab.async false
set_option linter.unusedVariables false
set_option linter.unusedSimpArgs false
namespace Ap
open PySem PySem.Calls PyProof.Rows
section
variable {C : Cx} {A : Around} {q : Bool} {env : Env} {envs : Vo} {nms : List Str} {ρ : Loc} {σ σ' : St} {ow ow' : Nat → Option Nat} {s s' : Shared} {outer : List Env}
mutual
theorem VR.xc {Z : Nat → Prop} {h h' : Heap} {fs : List Addr} {e : Addr} {t : Option (Addr × Value)} (x : Xc fs e t h h') (hz : ∀ b ∈ fs, Z b) {a : AV} {v : Value} (r : VR C Z h a v) : VR C Z h' a v := by
  cases r with
  | none => exact .none
  | bool b => exact .bool b
  | int i t => exact .int i t
  | str s t ok => exact .str s t ok
  | tup at_ off r =>
    obtain ⟨z, n, e⟩ := at_
    exact .tup ⟨z, n, x.keep _ _ e (fun m => off (hz _ m)) (.inr fun vs q => by cases q)⟩ off (VRs.xc x hz r)
  | ilist at_ off r =>
    obtain ⟨z, n, e⟩ := at_
    exact .ilist ⟨z, n, x.keep _ _ e (fun m => off (hz _ m)) (.inr fun vs q => by cases q)⟩ off (VRs.xc x hz r)
  | obj a => exact .obj a
  | exn at_ cls dt dn cx off =>
    obtain ⟨o', vs', y1, y2, y3, y4, _⟩ := x.fld _ _ _ at_ dt
    exact .exn y1 (y2.trans cls) y4 (y3.trans dn) cx off
theorem VRs.xc {Z : Nat → Prop} {h h' : Heap} {fs : List Addr} {e : Addr} {t : Option (Addr × Value)} (x : Xc fs e t h h') (hz : ∀ b ∈ fs, Z b) {a : List AV} {v : List Value} (r : VRs C Z h a v) : VRs C Z h' a v := by
  cases r with
  | nil => exact .nil
  | cons hd tl => exact .cons (VR.xc x hz hd) (VRs.xc x hz tl)
end
theorem ORep.xc {Z : Nat → Prop} {h h' : Heap} {fs : List Addr} {e : Addr} {t : Option (Addr × Value)} (x : Xc fs e t h h') (hz : ∀ b ∈ fs, Z b) {a : Addr} (ka : ∀ o, h.get? a = some o → h'.get? a = some o)
    (kd : ∀ dx, ow dx = some a → ∀ o, h.get? dx = some o → h'.get? dx = some o) {o : AObj} (r : ORep C Z ow h a o) : ORep C Z ow h' a o := by
  cases o with
  | list xs =>
    obtain ⟨vs, ⟨z, n, e⟩, r⟩ := r
    exact ⟨vs, ⟨z, n, ka _ e⟩, r.xc x hz⟩
  | dictI es =>
    obtain ⟨kvs, ⟨o, e1, ep, e, r⟩, z, y, w⟩ := r
    exact ⟨kvs, ⟨o, e1, ep, ka _ e, r⟩, z, y, w.xc x hz⟩
  | dictS es =>
    obtain ⟨kvs, ⟨o, e1, ep, e, r⟩, z, y, w⟩ := r
    exact ⟨kvs, ⟨o, e1, ep, ka _ e, r⟩, z, y, w.xc x hz⟩
  | inst c fs =>
    obtain ⟨o, dx, mA, e1, e2, e3, e4, e5, e6, e7, e8, r⟩ := r
    refine ⟨o, dx, mA, ka _ e1, e2, e3, e4, e5, e6, e7.at (fun o e => kd dx e6 o e), e8, fun f v y => ?_, r.2⟩
    obtain ⟨u, y1, y2⟩ := r.1 f v y
    exact ⟨u, y1, y2.xc x hz⟩
structure XOk (C : Cx) (envs : Vo) (σ : St) (ow : Nat → Option Nat) (fs : List Addr) (e : Addr) (t : Option (Addr × Value)) : Prop where
  sub : ∀ b ∈ fs, b ∈ envs.fs
  ne : ¬ Zs σ ow (zss envs) e ∧ C.base.get? e = Option.none
  nT : ∀ T fl, t = some (T, fl) → ¬ Zs σ ow (zss envs) T ∧ C.base.get? T = Option.none
theorem XOk.out {fs : List Addr} {e : Addr} {t : Option (Addr × Value)} (k : XOk C envs σ ow fs e t) {b : Addr} (hb : Zs σ ow (zss envs) b ∨ ∃ o, C.base.get? b = some o) : b ≠ e ∧ ∀ fl, t ≠ some (b, fl) := by
  refine ⟨fun q => ?_, fun fl q => ?_⟩
  · subst q
    rcases hb with hb | ⟨o, hb⟩
    · exact k.ne.1 hb
    · rw [k.ne.2] at hb; cases hb
  · rcases hb with hb | ⟨o, hb⟩
    · exact (k.nT b fl q).1 hb
    · rw [(k.nT b fl q).2] at hb; cases hb
theorem Good.xc {fs : List Addr} {e : Addr} {t : Option (Addr × Value)} {h' : Heap} (G : Good C envs σ ow s) (x : Xc fs e t s.heap h') (k : XOk C envs σ ow fs e t) : Good C envs σ ow { s with heap := h' } := by
  have hz : ∀ b ∈ fs, Zs σ ow (zss envs) b := fun b m => .inr (envs.sub _ (k.sub b m))
  have own : ∀ b, Own σ ow b → ∀ o, s.heap.get? b = some o → h'.get? b = some o := fun b ob o eb => x.keep b o eb (fun m => G.off b (envs.sub _ (k.sub b m)) ob) (.inl (k.out (.inl (.inl ob))))
  refine ⟨fun b o eb => ?_, G.frames.of_keeps fun b o eb nd => ?_, G.apart, fun b m => ?_, G.sub, fun b o' eb => ?_, fun b c eb => ?_, G.fresh, G.off, G.gens⟩
  · exact x.keep b o (G.stays b o eb) (fun m => by rw [(G.mem b (envs.sub _ (k.sub b m))).1] at eb; cases eb) (.inl (k.out (.inr ⟨o, eb⟩)))
  · obtain ⟨sl, z⟩ := x.frm b o eb nd
    exact ⟨_, z, rfl⟩
  · obtain ⟨y, o, eb⟩ := G.mem b m
    exact ⟨y, x.live eb⟩
  · exact (G.store b o' eb).xc x hz (own b (.inl (by rw [eb]; rfl))) fun dx hd => own dx (.inr (by rw [hd]; rfl))
  · obtain ⟨x1, x2, x3⟩ := G.parts b c eb
    obtain ⟨od, ed⟩ := Option.isSome_iff_exists.mp x3
    refine ⟨x1, x2, ?_⟩
    show (h'.get? b).isSome = true
    rw [own b (.inr (by rw [eb]; rfl)) od ed]; rfl
theorem SOk.xc (F : FEnv env nms envs outer) {fs : List Addr} {e : Addr} {t : Option (Addr × Value)} {h' : Heap} (K : SOk C A q env envs nms ρ σ ow s) (x : Xc fs e t s.heap h') (k : XOk C envs σ ow fs e t) : SOk C A q env envs nms ρ σ ow { s with heap := h' } := by
  have hz : ∀ b ∈ fs, Zs σ ow (zss envs) b := fun b m => .inr (envs.sub _ (k.sub b m))
  have nsk : ∀ m, s.heap.Ns env.locals m → h'.Ns env.locals m := fun m hn => by
    obtain ⟨o, es, ep, ho, hd, r⟩ := hn
    obtain ⟨sl, z⟩ := x.frm _ o ho fun vs q => by rw [hd] at q; cases q
    exact ⟨_, es, ep, z, hd, r⟩
  have ck : ∀ c v, s.heap.IsCell c v → h'.IsCell c v := fun c v hc => by
    obtain ⟨o, ho, hd⟩ := hc
    obtain ⟨sl, z⟩ := x.frm _ o ho fun vs q => by rw [hd] at q; cases q
    exact ⟨_, z, hd⟩
  refine ⟨⟨K.ok.good.xc x k, ⟨K.ok.loc.kind, K.ok.loc.glob, K.ok.loc.blt, K.ok.loc.offL, fun j w ej => ?_⟩, ?_, ?_⟩, ?_, fun y c hc => ?_⟩
  · obtain ⟨y, val, ey, ry, ly⟩ := K.ok.loc.val j w ej
    refine ⟨y, val, ey, VR.xc x hz ry, ?_⟩
    rcases ly with ⟨kd, m', hns, hm⟩ | ⟨c, kd, hc, hv, hz'⟩
    · exact .inl ⟨kd, m', nsk m' hns, hm⟩
    · exact .inr ⟨c, kd, hc, ck _ _ hv, hz'⟩
  · rcases K.ok.hnd with h | ⟨hq, e', o, vs, h1, h2, h3, h4, h5⟩
    · exact .inl h
    · obtain ⟨o', vs', y1, y2, y3, y4, y5⟩ := x.fld _ _ _ h2 h3
      exact .inr ⟨hq, e', o', vs', h1, y1, y4, y5.trans h4, h5⟩
  · obtain ⟨o, eo⟩ := K.ok.live
    exact x.live eo
  · obtain ⟨m, hn⟩ := K.ns
    exact ⟨m, nsk m hn⟩
  · obtain ⟨v, hv⟩ := K.cells y c hc
    exact ⟨v, ck c v hv⟩
theorem SStp.xc {X fs : List Addr} {e : Addr} {t : Option (Addr × Value)} {h' : Heap} (st : SStp X envs.fs (Own σ ow) (Own σ' ow') s s') (G : Good C envs σ' ow' s') (x : Xc fs e t s'.heap h') (k : XOk C envs σ' ow' fs e t)
    (n0 : s.heap.get? e = Option.none) (nT : ∀ T fl, t = some (T, fl) → s.heap.get? T = Option.none) (hf : ∀ b ∈ fs, ∀ o, s'.heap.get? b = some o → ∀ vs, o.data ≠ .fields vs) : SStp X envs.fs (Own σ ow) (Own σ' ow') s { s' with heap := h' } := by
  have out : ∀ b o, s.heap.get? b = some o → b ≠ e ∧ ∀ fl, t ≠ some (b, fl) := fun b o eb => ⟨fun q => (by subst q; rw [n0] at eb; cases eb), fun fl q => (by rw [nT b fl q] at eb; cases eb)⟩
  refine ⟨fun b o eb nO nf => ?_, fun b o eb m nX => ?_, fun b o eb m => ?_, st.grow, st.fresh, st.gens, st.drawn, st.os⟩
  · exact x.keep b o (st.keep b o eb nO nf) (fun m => nf (k.sub b m)) (.inl (out b o eb))
  · obtain ⟨sl, z⟩ := st.frm b o eb m nX
    by_cases q : ∃ vs, o.data = .fields vs
    · by_cases mf : b ∈ fs
      · obtain ⟨vs, d⟩ := q
        exact absurd d (hf b mf _ z vs)
      · exact ⟨sl, x.keep b _ z mf (.inl (out b o eb))⟩
    · obtain ⟨sl', z'⟩ := x.frm b _ z fun vs d => q ⟨vs, d⟩
      exact ⟨sl', z'⟩
  · obtain ⟨o', z⟩ := st.liv b o eb m
    exact x.live z
theorem Good.frm (G : Good C envs σ ow s) {l : List Env} (e : envs.l = l) : ∀ b ∈ l.filterMap (·.frame), ∀ o, s.heap.get? b = some o → ∀ vs, o.data ≠ .fields vs := fun b m o eb vs => by
  subst e
  obtain ⟨_, o', e', d⟩ := G.frames.mem m
  rw [eb] at e'
  cases e'
  exact d vs
theorem Good.subF (G : Good C envs σ ow s) {l : List Env} (e : envs.l = l) : ∀ b ∈ l.filterMap (·.frame), b ∈ envs.fs := fun b m => by
  subst e
  obtain ⟨env, he, hf⟩ := List.mem_filterMap.mp m
  exact G.sub env he b hf
theorem note_snd (F : FEnv env nms envs outer) (hA : A.frames = some envs.l) {s₀ : Shared} {σ₀ : St} {ow₀ : Nat → Option Nat} {e : Addr} {c : Nat} {Q : Unit → Shared → Prop} {E : Value → Shared → Prop}
    (hb : C.base.StaysIn s₀.heap) (st : SStp (ownX env) envs.fs (Own σ₀ ow₀) (Own σ ow) s₀ s) (K : SOk C A q env envs nms ρ σ ow s) (t : ThrS C env.locals (Zs σ ow (zss envs)) s₀.heap e c s.heap)
    (k : ∀ s' T, SStp (ownX env) envs.fs (Own σ₀ ow₀) (Own σ ow) s₀ s' → SOk C A q env envs nms ρ σ ow s' → ExO s'.heap e (.ref (C.clsA c)) (some (T, rawInt env.locals)) → s₀.heap.get? T = Option.none → ¬ Zs σ ow (zss envs) T → Q () s') :
    wpAny (model C.prog C.w) A (noteFrame (.ref e) env) Q E s := by
  obtain ⟨⟨n1, n2, n3⟩, tt, x1, x2⟩ := t
  have bn : ∀ b, s₀.heap.get? b = Option.none → C.base.get? b = Option.none := fun b z => by
    cases y : C.base.get? b with
    | none => rfl
    | some o => rw [hb b o y] at z; cases z
  have xk : XOk C envs σ ow ((env :: outer).filterMap (·.frame)) e tt := ⟨K.ok.good.subF F.l, ⟨n2, bn _ n1⟩, fun T fl z => ⟨(x2 T fl z).2.2, bn _ (x2 T fl z).2.1⟩⟩
  refine note_low (hA.trans (by rw [F.l])) (by have := K.ok.good.frames; rw [F.l] at this; exact this) F.frame x1 fun h' T' y1 y2 y3 => ?_
  have st' := st.xc K.ok.good y1 xk n1 (fun T fl z => (x2 T fl z).2.1) (K.ok.good.frm F.l)
  refine k _ T' st' (K.xc F y1 xk) y2 ?_ ?_
  · rcases y3 with y3 | ⟨fl, y3⟩
    · exact st.back K.ok.good T' y3
    · exact (x2 T' fl y3).2.1
  · rcases y3 with y3 | ⟨fl, y3⟩
    · rintro (z | z)
      · obtain ⟨o, w⟩ := K.ok.good.live z
        rw [y3] at w; cases w
      · obtain ⟨_, o, w⟩ := K.ok.good.mem _ z
        rw [y3] at w; cases w
    · exact (x2 T' fl y3).2.2
theorem flight_snd (F : FEnv env nms envs outer) {s₀ : Shared} {σ₀ : St} {ow₀ : Nat → Option Nat} {e T : Addr} {c : Nat} {fl : Value} {f : Option Addr} {Q : Unit → Shared → Prop} {E : Value → Shared → Prop}
    (hb : C.base.StaysIn s₀.heap) (st : SStp (ownX env) envs.fs (Own σ₀ ow₀) (Own σ ow) s₀ s) (K : SOk C A q env envs nms ρ σ ow s) (n : s₀.heap.get? e = Option.none ∧ ¬ Zs σ ow (zss envs) e) (x : ExO s.heap e (.ref (C.clsA c)) (some (T, fl)))
    (nT : s₀.heap.get? T = Option.none) (nZ : ¬ Zs σ ow (zss envs) T)
    (k : ∀ s', SStp (ownX env) envs.fs (Own σ₀ ow₀) (Own σ ow) s₀ s' → SOk C A q env envs nms ρ σ ow s' → ExO s'.heap e (.ref (C.clsA c)) (some (T, f.elim .none fun f => rawInt f)) → Q () s') :
    wpAny (model C.prog C.w) A (setFlight (.ref e) f) Q E s := by
  have bn : ∀ b, s₀.heap.get? b = Option.none → C.base.get? b = Option.none := fun b z => by
    cases y : C.base.get? b with
    | none => rfl
    | some o => rw [hb b o y] at z; cases z
  have xk : XOk C envs σ ow [] e (some (T, fl)) := ⟨fun b m => absurd m (by simp), ⟨n.2, bn _ n.1⟩, fun T' fl' z => by cases z; exact ⟨nZ, bn _ nT⟩⟩
  refine flight_low x fun h' y1 y2 => ?_
  exact k _ (st.xc K.ok.good y1 xk n.1 (fun T' fl' z => by cases z; exact nT) fun b m => absurd m (by simp)) (K.xc F y1 xk) y2
theorem noted_snd (F : FEnv env nms envs outer) (hA : A.frames = some envs.l) {s₀ : Shared} {σ₀ : St} {ow₀ : Nat → Option Nat} {e : Addr} {c : Nat} {Ea : ES} {E : Value → Shared → Prop}
    (hb : C.base.StaysIn s₀.heap) (st : SStp (ownX env) envs.fs (Own σ₀ ow₀) (Own σ ow) s₀ s) (K : SOk C A q env envs nms ρ σ ow s) (t : ThrS C env.locals (Zs σ ow (zss envs)) s₀.heap e c s.heap) (a : Ea c ρ σ)
    (kx : KXS C A q env envs nms σ₀ ow₀ s₀ Ea E) : notedBy (model C.prog C.w) A env (cameBackBy (model C.prog C.w) A env E) (.ref e) s := by
  have t0 := t.1
  refine note_snd F hA hb st K t fun s' T st' K' x nT nZ => ?_
  unfold cameBackBy
  obtain ⟨oe, vs, a0, x1, x2, x3, x4, x5, x6, x7, x8⟩ := id x
  refine wpAny_bind (wpAny_field x1 x4 x7 ?_)
  rw [if_neg (by simp)]
  refine flight_snd F hb st' K' ⟨t0.1, t0.2.1⟩ x nT nZ fun s'' st'' K'' x' => ?_
  rw [F.frame] at x'
  exact kx e c ρ σ ow s'' a st'' K'' ⟨t0, _, x', fun T' fl' z => by cases z; exact ⟨.inr rfl, nT, nZ⟩⟩
end
end Ap
end
section
set_option Elab.async false
set_option linter.unusedVariables false
set_option linter.unusedSimpArgs false
namespace Ap
open PySem PySem.Calls PyProof.Rows
section
variable {prog : Program} {w : World} {A : Around} {E : Value → Shared → Prop} {s : Shared}
theorem entry_unchain : entryFor table "proto.unchain" = some Builtin.«proto.unchain» := entryFor_of_fast (by kernel_rfl)
def HLow (A : Around) (h : Heap) : Prop := A.handled = Option.none ∨ ∃ e o vs, A.handled = some (.ref e) ∧ h.get? e = some o ∧ o.data = .fields vs ∧ vs[2]? = some .none
theorem raiseNew_low {α : Type} {a : Addr} {o : Obj} {vs : Array Value} {Q : α → Shared → Prop} (hh : HLow A s.heap) (ho : s.heap.get? a = some o) (hd : o.data = .fields vs) (h2 : 2 < vs.size)
    (h : ∀ h' vs', h'.get? a = some { o with data := .fields vs' } → (∀ b, b ≠ a → h'.get? b = s.heap.get? b) → E (.ref a) { s with heap := h' }) : wpAny (model prog w) A (raiseNew (.ref a) : Sem α) Q E s := by
  unfold raiseNew
  refine wpAny_bind (wpAny_handled ?_)
  rcases hh with hh | ⟨e, oe, es, hh, he, hde, h0⟩
  · rw [hh]
    exact wpAny_bind (wpAny_pure (wpAny_throw (h s.heap vs (by rw [ho, ← hd]) fun _ _ => rfl)))
  · rw [hh]
    by_cases q : (Value.ref e != Value.ref a) = true
    · show wpAny _ _ (if (Value.ref e != Value.ref a) = true then _ else _) _ _ _
      rw [if_pos q]
      refine wpAny_bind ((wpAny_holding (wpAny_runValue (codeAny_builtin entry_unchain ?_))))
      unfold Builtin.«proto.unchain»
      refine wpAny_bind (wpAny_field he hde h0 ?_)
      rw [if_pos (show (Value.none == Value.none) = true from by decide)]
      refine wpAny_bind (wpAny_pure ?_)
      refine wpAny_pure ?_
      show wpAny _ _ (setField (.ref a) 2 (.ref e) >>= _) _ _ _
      refine wpAny_bind (wpAny_setField (x := .ref e) ho hd h2 ?_)
      obtain ⟨u1, u2⟩ := upd_fields 2 (.ref e) ho hd
      exact wpAny_throw (h _ _ u1 u2)
    · show wpAny _ _ (if (Value.ref e != Value.ref a) = true then _ else _) _ _ _
      rw [if_neg q]
      exact wpAny_throw (h s.heap vs (by rw [ho, ← hd]) fun _ _ => rfl)
theorem next_list_end' {it l : Addr} {i : Nat} {items : Array Value} {Q : Option Value → Shared → Prop} (hh : HLow A s.heap)
    (hit : s.heap.IsListIter it l i) (hl : s.heap.IsList l items) (hx : items[i]? = none) (hA : ∀ e, A.handled = some (.ref e) → e ≠ it)
    (hQ : ∀ h', Heap.ExtBut it s.heap h' → (∃ o, h'.get? it = some o) → Q none { s with heap := h' }) : wpAny (model prog w) A (pyNext (.ref it)) Q E s := by
  obtain ⟨o, ho, hc, hd⟩ := id hit
  obtain ⟨ol, hol, _, nl, hdl⟩ := hl
  unfold pyNext
  refine wpAny_bind (wpAny_attempt (wpAny_callSpecial?_slot (name := Str.ofString "__next__") hit.typeIs slot_listiter_next
    (wpAny_call_entry slot_listiter_next hit.typeIs entry_listiter_next ?_ (args_listiter_next _))))
  show wpAny _ _ (field (.ref it) 0 >>= _) _ _ s
  refine wpAny_bind (wpAny_field ho hd (x := .ref l) rfl ?_)
  show wpAny _ _ (if (Value.ref l == Value.none) = true then _ else _) _ _ s
  rw [if_neg (show ¬ ((Value.ref l == Value.none) = true) from Bool.false_ne_true)]
  show wpAny _ _ (field (.ref it) 1 >>= _) _ _ s
  refine wpAny_bind (wpAny_field ho hd (x := .int i 0) rfl ?_)
  show wpAny _ _ (seqItems? (.ref l) >>= _) _ _ s
  refine wpAny_bind (wpAny_seqItems hol hdl ?_)
  simp only [Int.toNat_natCast, hx]
  refine wpAny_bind (wpAny_rule (wpAny_bind (wpAny_setField ho hd (by simp) ?_)))
  show wpAny _ _ (newExc (.type "StopIteration") [] >>= _) _ _ _
  refine wpAny_bind ?_
  simp only [newExc, newTuple]
  refine wpAny_bind (wpAny_newObj_type ?_ (by size_fits))
  refine wpAny_bind (m := firstArgMember _ _) (wpAny_of_eq (a := Value.none) (by first | rfl | (simp only [firstArgMember]; rfl)) ?_)
  refine wpAny_newObj_type ?_ (by size_fits)
  refine raiseNew_low ?_ (Heap.get?_push_size _ rfl) rfl (by simp only [List.size_toArray, List.length_append, List.length_cons, Array.size_append]; omega) fun h' vs' y1 y2 => ?_
  · rcases hh with hh | ⟨e, oe, es, hh, he, hde, h0⟩
    · exact .inl hh
    · refine .inr ⟨e, oe, es, hh, ?_, hde, h0⟩
      exact Heap.get?_push_of_some _ (Heap.get?_push_of_some _ ((Heap.get?_update_other _ _ (Ne.symm (hA e hh))).trans he))
  · refine wpAny_bind (wpAny_isInstance (T := "StopIteration") (b := true) ⟨_, y1, rfl⟩ isSubtype_stop ?_)
    have hself := Heap.get?_update_self (Obj.mapFields (·.setIfInBounds 0 Value.none)) ho (Obj.isFreed_of_fields (Obj.data_mapFields hd _))
    have k0 := Heap.get?_push_of_some { cls := .type "tuple", data := .seq #[] } hself
    refine wpAny_pure (hQ _ (fun b ob nb eb => ?_) ⟨_, (y2 it (Nat.ne_of_lt (Heap.lt_size k0))).trans (Heap.get?_push_of_some _ k0)⟩)
    have k1 := Heap.get?_push_of_some { cls := .type "tuple", data := .seq #[] } ((Heap.get?_update_other s.heap (Obj.mapFields (·.setIfInBounds 0 Value.none)) (Ne.symm nb)).trans eb)
    rw [y2 b (fun q => absurd (Heap.lt_size k1) (by rw [q]; exact Nat.lt_irrefl _))]
    exact Heap.get?_push_of_some _ k1
end
end Ap
end
section
set_option Elab.async false
set_option genSizeOf false
set_option linter.unusedVariables false
set_option linter.unusedSimpArgs false
namespace Ap
open PySem PySem.Calls PyProof.Rows
def Vo.plus (V : Vo) (wr : List Addr) : Vo := ⟨V.l, V.fs, wr ++ V.its⟩
section
variable {C : Cx} {A : Around} {q : Bool} {env : Env} {V : Vo} {nms : List Str} {ρ : Loc} {σ σ' : St} {ow ow' : Nat → Option Nat} {s s' : Shared} {outer : List Env} {wr : List Addr}
theorem Vo.plus_sub : ∀ b ∈ zss V, b ∈ zss (V.plus wr) := fun b h => by
  rcases List.mem_append.mp h with h | h
  · exact List.mem_append_left _ h
  · exact List.mem_append_right _ (List.mem_append_right _ h)
theorem Vo.plus_mem {b : Addr} (h : b ∈ zss (V.plus wr)) : b ∈ zss V ∨ b ∈ wr := by
  rcases List.mem_append.mp h with h | h
  · exact .inl (List.mem_append_left _ h)
  · rcases List.mem_append.mp h with h | h
    · exact .inr h
    · exact .inl (List.mem_append_right _ h)
theorem Vo.plus_wr {b : Addr} (h : b ∈ wr) : b ∈ zss (V.plus wr) := List.mem_append_right _ (List.mem_append_left _ h)
theorem zs_plus {b : Addr} (h : Zs σ ow (zss V) b) : Zs σ ow (zss (V.plus wr)) b := h.imp id (Vo.plus_sub b)
theorem Good.open_ {h' : Heap} {t : Nat} (G : Good C V σ ow s) (gr : ∀ b o, s.heap.get? b = some o → h'.get? b = some o) (fr : ∀ b ∈ wr, s.heap.get? b = Option.none ∧ ∃ o, h'.get? b = some o) : Good C (V.plus wr) σ ow { s with heap := h', toks := t } := by
  have zg : Zg (Zs σ ow (zss V)) (Zs σ ow (zss (V.plus wr))) s.heap := fun b z => by
    rcases z with z | z
    · exact .inl (.inl z)
    · rcases Vo.plus_mem z with z | z
      · exact .inl (.inr z)
      · exact .inr (fr b z).1
  refine ⟨fun b o e => gr b o (G.stays b o e), G.frames.of_keeps fun b o e _ => ⟨o, gr b o e, rfl⟩, fun b m n => ?_, fun b m => ?_, G.sub, fun b o' e => ?_, fun b c e => ?_, G.fresh, fun L hL z => ?_, G.gens⟩
  · rcases List.mem_append.mp m with m | m
    · obtain ⟨_, o, z⟩ := G.mem b (V.sub b n)
      rw [(fr b m).1] at z; cases z
    · exact G.apart b m n
  · rcases Vo.plus_mem m with m | m
    · obtain ⟨x, o, z⟩ := G.mem b m
      exact ⟨x, o, gr b o z⟩
    · refine ⟨?_, (fr b m).2⟩
      cases z : C.base.get? b with
      | none => rfl
      | some o => have := G.stays b o z; rw [(fr b m).1] at this; cases this
  · have x := G.store b o' e
    obtain ⟨oa, ea⟩ := Option.isSome_iff_exists.mp x.live
    exact x.kp (fun b o e _ => gr b o e) zg (by rw [ea]; exact gr b oa ea) fun dx hd => by
      obtain ⟨od, ed⟩ := Option.isSome_iff_exists.mp (G.parts dx b hd).2.2
      exact ⟨by rw [ed]; exact gr dx od ed, hd⟩
  · obtain ⟨x1, x2, x3⟩ := G.parts b c e
    obtain ⟨od, ed⟩ := Option.isSome_iff_exists.mp x3
    exact ⟨x1, x2, by show (h'.get? b).isSome = true; rw [gr b od ed]; rfl⟩
  · rcases Vo.plus_mem hL with m | m
    · exact G.off L m z
    · obtain ⟨o, y⟩ := G.live z
      rw [(fr L m).1] at y; cases y
theorem Good.close_ (G : Good C (V.plus wr) σ ow s) : Good C V σ ow s := by
  have zg : ∀ h : Heap, Zg (Zs σ ow (zss (V.plus wr))) (Zs σ ow (zss V)) h := fun h b z => .inl (zs_plus z)
  refine ⟨G.stays, G.frames, fun b m => G.apart b (List.mem_append_right _ m), fun b m => G.mem b (Vo.plus_sub b m), G.sub, fun b o' e => ?_, G.parts, G.fresh, fun L hL => G.off L (Vo.plus_sub L hL), G.gens⟩
  exact (G.store b o' e).kp (fun _ _ e _ => e) (zg _) rfl fun dx hd => ⟨rfl, hd⟩
theorem Good.its {h' : Heap} {t : Nat} (G : Good C (V.plus wr) σ ow s) (k : ∀ b o, b ∉ wr → s.heap.get? b = some o → h'.get? b = some o) (lv : ∀ b ∈ wr, ∃ o, h'.get? b = some o) : Good C (V.plus wr) σ ow { s with heap := h', toks := t } := by
  have no : ∀ b, Own σ ow b → b ∉ wr := fun b z m => G.off b (Vo.plus_wr m) z
  have hK : Kp (Zs σ ow (zss (V.plus wr))) s.heap h' := fun b o e n => k b o (fun m => n (.inr (Vo.plus_wr m))) e
  have nf : ∀ b ∈ V.fs, b ∉ wr := fun b m n => G.apart b (List.mem_append_left _ n) m
  refine ⟨fun b o e => k b o (fun m => ?_) (G.stays b o e), ?_, G.apart, fun b m => ?_, G.sub, fun b o' e => ?_, fun b c e => ?_, G.fresh, G.off, G.gens⟩
  · rw [(G.mem b (Vo.plus_wr m)).1] at e; cases e
  · have : ∀ l : List Env, (∀ L ∈ l.filterMap (·.frame), L ∉ wr) → s.heap.FunFrames C.base l → h'.FunFrames C.base l := by
      intro l
      induction l with
      | nil => intro _ _; trivial
      | cons env r ih =>
        rintro hn ⟨hk, ⟨L, ob, hf, hb, ho, hdt⟩, hr⟩
        refine ⟨hk, ⟨L, ob, hf, hb, k L ob (hn L (by simp [List.filterMap_cons, hf])) ho, hdt⟩, ih (fun L hL => hn L ?_) hr⟩
        rw [List.filterMap_cons, hf]; exact List.mem_cons_of_mem _ hL
    exact this _ (fun L hL => by
      obtain ⟨env, he, hf⟩ := List.mem_filterMap.mp hL
      exact nf L (G.sub env he L hf)) G.frames
  · obtain ⟨x, o, e⟩ := G.mem b m
    by_cases z : b ∈ wr
    · exact ⟨x, lv b z⟩
    · exact ⟨x, o, k b o z e⟩
  · have x := G.store b o' e
    obtain ⟨oa, ea⟩ := Option.isSome_iff_exists.mp x.live
    exact x.kp hK (Zg.refl _ _) (by rw [ea]; exact k b oa (no b (.inl (by rw [e]; rfl))) ea) fun dx hd => by
      obtain ⟨od, ed⟩ := Option.isSome_iff_exists.mp (G.parts dx b hd).2.2
      exact ⟨by rw [ed]; exact k dx od (no dx (.inr (by rw [hd]; rfl))) ed, hd⟩
  · obtain ⟨x1, x2, x3⟩ := G.parts b c e
    obtain ⟨od, ed⟩ := Option.isSome_iff_exists.mp x3
    exact ⟨x1, x2, by show (h'.get? b).isSome = true; rw [k b od (no b (.inr (by rw [e]; rfl))) ed]; rfl⟩
theorem FEnv.plus (F : FEnv env nms V outer) : FEnv env nms (V.plus wr) outer := ⟨F.l, F.kind, F.frame, F.inF, F.cel, F.apart, F.nodup, F.kinds⟩
theorem AOk.plus {d : Nat} (x : AOk A V d) : AOk A (V.plus wr) d := ⟨x.frames, x.depth, x.units⟩
theorem Ok.open_ {h' : Heap} {t : Nat} (k : Ok C A q env V nms ρ σ ow s) (gr : ∀ b o, s.heap.get? b = some o → h'.get? b = some o) (fr : ∀ b ∈ wr, s.heap.get? b = Option.none ∧ ∃ o, h'.get? b = some o) : Ok C A q env (V.plus wr) nms ρ σ ow { s with heap := h', toks := t } := by
  have zg : Zg (Zs σ ow (zss V)) (Zs σ ow (zss (V.plus wr))) s.heap := fun b z => by
    rcases z with z | z
    · exact .inl (.inl z)
    · rcases Vo.plus_mem z with z | z
      · exact .inl (.inr z)
      · exact .inr (fr b z).1
  refine ⟨k.good.open_ gr fr, ⟨k.loc.kind, k.loc.glob, k.loc.blt, k.loc.offL, fun j w e => ?_⟩, ?_, let ⟨o, e⟩ := k.live; ⟨o, gr _ _ e⟩⟩
  · obtain ⟨y, val, ey, ry, ly⟩ := k.loc.val j w e
    refine ⟨y, val, ey, ry.kp (fun b o e _ => gr b o e) zg, ?_⟩
    rcases ly with ⟨kd, m', hns, hm⟩ | ⟨c, kd, hc, ⟨o, eo, d⟩, hz⟩
    · exact .inl ⟨kd, m', hns.at' fun o e => gr _ _ e, hm⟩
    · exact .inr ⟨c, kd, hc, ⟨o, gr _ _ eo, d⟩, hz⟩
  · rcases k.hnd with h | ⟨hq, e, o, vs, h1, h2, h3, h4, h5⟩
    · exact .inl h
    · exact .inr ⟨hq, e, o, vs, h1, gr _ _ h2, h3, h4, zg.not h2 h5⟩
theorem SOk.open_ {h' : Heap} {t : Nat} (k : SOk C A q env V nms ρ σ ow s) (gr : ∀ b o, s.heap.get? b = some o → h'.get? b = some o) (fr : ∀ b ∈ wr, s.heap.get? b = Option.none ∧ ∃ o, h'.get? b = some o) : SOk C A q env (V.plus wr) nms ρ σ ow { s with heap := h', toks := t } :=
  ⟨k.ok.open_ gr fr, let ⟨m, h⟩ := k.ns; ⟨m, h.at' fun o e => gr _ _ e⟩, fun y c hc => let ⟨v, o, e, d⟩ := k.cells y c hc; ⟨v, o, gr _ _ e, d⟩⟩
theorem Ok.close_ (k : Ok C A q env (V.plus wr) nms ρ σ ow s) : Ok C A q env V nms ρ σ ow s := by
  refine ⟨k.good.close_, ⟨k.loc.kind, k.loc.glob, k.loc.blt, k.loc.offL, fun j w e => ?_⟩, ?_, k.live⟩
  · obtain ⟨y, val, ey, ry, ly⟩ := k.loc.val j w e
    exact ⟨y, val, ey, ry.kp (fun _ _ e _ => e) fun b z => .inl (zs_plus z), ly⟩
  · rcases k.hnd with h | ⟨hq, e, o, vs, h1, h2, h3, h4, h5⟩
    · exact .inl h
    · exact .inr ⟨hq, e, o, vs, h1, h2, h3, h4, fun z => h5 (zs_plus z)⟩
theorem SOk.close_ (k : SOk C A q env (V.plus wr) nms ρ σ ow s) : SOk C A q env V nms ρ σ ow s := ⟨k.ok.close_, k.ns, k.cells⟩
theorem SOk.its (F : FEnv env nms V outer) {h' : Heap} {t : Nat} (K : SOk C A q env (V.plus wr) nms ρ σ ow s) (k : ∀ b o, b ∉ wr → s.heap.get? b = some o → h'.get? b = some o) (lv : ∀ b ∈ wr, ∃ o, h'.get? b = some o) : SOk C A q env (V.plus wr) nms ρ σ ow { s with heap := h', toks := t } := by
  have hK : Kp (Zs σ ow (zss (V.plus wr))) s.heap h' := fun b o e n => k b o (fun m => n (.inr (Vo.plus_wr m))) e
  have nf : ∀ b ∈ V.fs, b ∉ wr := fun b m n => K.ok.good.apart b (List.mem_append_left _ n) m
  have nL := nf _ F.inF
  refine ⟨⟨K.ok.good.its k lv, ⟨K.ok.loc.kind, K.ok.loc.glob, K.ok.loc.blt, K.ok.loc.offL, fun j w e => ?_⟩, ?_, let ⟨o, e⟩ := K.ok.live; ⟨o, k _ _ nL e⟩⟩, let ⟨m, h⟩ := K.ns; ⟨m, h.at' fun o e => k _ _ nL e⟩, fun y c hc => let ⟨v, o, e, d⟩ := K.cells y c hc; ⟨v, o, k _ _ (nf _ (F.cel y c hc).1) e, d⟩⟩
  · obtain ⟨y, val, ey, ry, ly⟩ := K.ok.loc.val j w e
    refine ⟨y, val, ey, ry.kp hK (Zg.refl _ _), ?_⟩
    rcases ly with ⟨kd, m', hns, hm⟩ | ⟨c, kd, hc, ⟨o, eo, d⟩, hz⟩
    · exact .inl ⟨kd, m', hns.at' fun o e => k _ _ nL e, hm⟩
    · exact .inr ⟨c, kd, hc, ⟨o, k _ _ (nf _ (F.cel y c hc).1) eo, d⟩, hz⟩
  · rcases K.ok.hnd with h | ⟨hq, e, o, vs, h1, h2, h3, h4, h5⟩
    · exact .inl h
    · exact .inr ⟨hq, e, o, vs, h1, hK _ _ h2 h5, h3, h4, h5⟩
theorem SStp.its {X : List Addr} {O O' : Nat → Prop} {s₀ : Shared} {h' : Heap} {t : Nat} (x : SStp X V.fs O O' s₀ s) (G : ∀ b ∈ V.fs, b ∉ wr) (k : ∀ b o, b ∉ wr → s.heap.get? b = some o → h'.get? b = some o) (fr : ∀ b ∈ wr, s₀.heap.get? b = Option.none) :
    SStp X V.fs O O' s₀ { s with heap := h', toks := t } where
  keep := fun b o e n m => k b o (fun w => by rw [fr b w] at e; cases e) (x.keep b o e n m)
  frm := fun b o e m n => let ⟨sl, z⟩ := x.frm b o e m n; ⟨sl, k b _ (G b m) z⟩
  liv := fun b o e m => let ⟨o', z⟩ := x.liv b o e m; ⟨o', k b _ (G b m) z⟩
  grow := x.grow
  fresh := x.fresh
  gens := x.gens
  drawn := x.drawn
  os := x.os
theorem Good.drop {h' : Heap} {t : Nat} (G : Good C (V.plus wr) σ ow s) (nz : ∀ b ∈ wr, b ∉ V.its) (k : ∀ b o, b ∉ wr → s.heap.get? b = some o → h'.get? b = some o) : Good C V σ ow { s with heap := h', toks := t } := by
  have no : ∀ b, Own σ ow b → b ∉ wr := fun b z m => G.off b (Vo.plus_wr m) z
  have nf : ∀ b ∈ V.fs, b ∉ wr := fun b m n => G.apart b (List.mem_append_left _ n) m
  have hK : Kp (Zs σ ow (zss (V.plus wr))) s.heap h' := fun b o e n => k b o (fun m => n (.inr (Vo.plus_wr m))) e
  have zg : Zg (Zs σ ow (zss (V.plus wr))) (Zs σ ow (zss V)) s.heap := fun b z => .inl (zs_plus z)
  have nv : ∀ b ∈ zss V, b ∉ wr := fun b m => by
    rcases List.mem_append.mp m with m | m
    · exact nf b m
    · exact fun w => nz b w m
  refine ⟨fun b o e => k b o (fun m => ?_) (G.stays b o e), ?_, fun b m => G.apart b (List.mem_append_right _ m), fun b m => ?_, G.sub, fun b o' e => ?_, fun b c e => ?_, G.fresh, fun L hL => G.off L (Vo.plus_sub L hL), G.gens⟩
  · rw [(G.mem b (Vo.plus_wr m)).1] at e; cases e
  · have : ∀ l : List Env, (∀ L ∈ l.filterMap (·.frame), L ∉ wr) → s.heap.FunFrames C.base l → h'.FunFrames C.base l := by
      intro l
      induction l with
      | nil => intro _ _; trivial
      | cons env r ih =>
        rintro hn ⟨hk, ⟨L, ob, hf, hb, ho, hdt⟩, hr⟩
        refine ⟨hk, ⟨L, ob, hf, hb, k L ob (hn L (by simp [List.filterMap_cons, hf])) ho, hdt⟩, ih (fun L hL => hn L ?_) hr⟩
        rw [List.filterMap_cons, hf]; exact List.mem_cons_of_mem _ hL
    exact this _ (fun L hL => by
      obtain ⟨env, he, hf⟩ := List.mem_filterMap.mp hL
      exact nf L (G.sub env he L hf)) G.frames
  · obtain ⟨x, o, e⟩ := G.mem b (Vo.plus_sub b m)
    exact ⟨x, o, k b o (nv b m) e⟩
  · have x := G.store b o' e
    obtain ⟨oa, ea⟩ := Option.isSome_iff_exists.mp x.live
    exact x.kp hK zg (by rw [ea]; exact k b oa (no b (.inl (by rw [e]; rfl))) ea) fun dx hd => by
      obtain ⟨od, ed⟩ := Option.isSome_iff_exists.mp (G.parts dx b hd).2.2
      exact ⟨by rw [ed]; exact k dx od (no dx (.inr (by rw [hd]; rfl))) ed, hd⟩
  · obtain ⟨x1, x2, x3⟩ := G.parts b c e
    obtain ⟨od, ed⟩ := Option.isSome_iff_exists.mp x3
    exact ⟨x1, x2, by show (h'.get? b).isSome = true; rw [k b od (no b (.inr (by rw [e]; rfl))) ed]; rfl⟩
theorem SOk.drop (F : FEnv env nms V outer) {h' : Heap} {t : Nat} (K : SOk C A q env (V.plus wr) nms ρ σ ow s) (nz : ∀ b ∈ wr, b ∉ V.its) (k : ∀ b o, b ∉ wr → s.heap.get? b = some o → h'.get? b = some o) : SOk C A q env V nms ρ σ ow { s with heap := h', toks := t } := by
  have hK : Kp (Zs σ ow (zss (V.plus wr))) s.heap h' := fun b o e n => k b o (fun m => n (.inr (Vo.plus_wr m))) e
  have zg : Zg (Zs σ ow (zss (V.plus wr))) (Zs σ ow (zss V)) s.heap := fun b z => .inl (zs_plus z)
  have nf : ∀ b ∈ V.fs, b ∉ wr := fun b m n => K.ok.good.apart b (List.mem_append_left _ n) m
  have nL := nf _ F.inF
  refine ⟨⟨K.ok.good.drop nz k, ⟨K.ok.loc.kind, K.ok.loc.glob, K.ok.loc.blt, K.ok.loc.offL, fun j w e => ?_⟩, ?_, let ⟨o, e⟩ := K.ok.live; ⟨o, k _ _ nL e⟩⟩, let ⟨m, h⟩ := K.ns; ⟨m, h.at' fun o e => k _ _ nL e⟩, fun y c hc => let ⟨v, o, e, d⟩ := K.cells y c hc; ⟨v, o, k _ _ (nf _ (F.cel y c hc).1) e, d⟩⟩
  · obtain ⟨y, val, ey, ry, ly⟩ := K.ok.loc.val j w e
    refine ⟨y, val, ey, ry.kp hK zg, ?_⟩
    rcases ly with ⟨kd, m', hns, hm⟩ | ⟨c, kd, hc, ⟨o, eo, d⟩, hz⟩
    · exact .inl ⟨kd, m', hns.at' fun o e => k _ _ nL e, hm⟩
    · exact .inr ⟨c, kd, hc, ⟨o, k _ _ (nf _ (F.cel y c hc).1) eo, d⟩, hz⟩
  · rcases K.ok.hnd with h | ⟨hq, e, o, vs, h1, h2, h3, h4, h5⟩
    · exact .inl h
    · exact .inr ⟨hq, e, o, vs, h1, hK _ _ h2 h5, h3, h4, fun z => h5 (zs_plus z)⟩
structure It (C : Cx) (A : Around) (q : Bool) (target : Expr) (V : Vo) (I : Addr) (wr : List Addr) (xs : List AV) (G : St → Prop) (inv : Nat → St → (Nat → Option Nat) → Shared → Prop) : Prop where
  step : ∀ X i σ ow s σ' ow' s', inv i σ ow s → Good C (V.plus wr) σ ow s → SStp X V.fs (Own σ ow) (Own σ' ow') s s' → Good C (V.plus wr) σ' ow' s' → G σ' → inv i σ' ow' s'
  next : ∀ i x σ ow s (Q : Value → Shared → Prop) E, xs[i]? = some x → inv i σ ow s → Good C (V.plus wr) σ ow s → G σ →
    (∀ v h' tk, VR C (Zs σ ow (zss (V.plus wr))) h' x v → inv (i + 1) σ ow { s with heap := h', toks := tk } → (∀ b o, b ∉ wr → s.heap.get? b = some o → h'.get? b = some o) → (∀ b ∈ wr, ∃ o, h'.get? b = some o) → Q v { s with heap := h', toks := tk }) →
    wpAny (model C.prog C.w) A (pyNext (.ref I)) (fun r s₁ => match r with | Option.none => False | some v => wpAny (model C.prog C.w) A (letOwnedTupleGo target (.ref I) v) (fun _ s₂ => Q v s₂) E s₁) E s
  done : ∀ σ ow s (Q : Option Value → Shared → Prop) E, inv xs.length σ ow s → Good C (V.plus wr) σ ow s → HOk A q (Zs σ ow (zss (V.plus wr))) s.heap → G σ →
    (∀ h' tk, (∀ b o, b ∉ wr → s.heap.get? b = some o → h'.get? b = some o) → Q Option.none { s with heap := h', toks := tk }) → wpAny (model C.prog C.w) A (pyNext (.ref I)) Q E s
  move : ∀ i σ ow s h' tk, inv i σ ow s → Good C (V.plus wr) σ ow s → (∀ b o, (b ∈ V.its → b ∈ wr) → s.heap.get? b = some o → h'.get? b = some o) → inv i σ ow { s with heap := h', toks := tk }
  self : ∀ i σ ow s (Q : Value → Shared → Prop) E, inv i σ ow s → Good C (V.plus wr) σ ow s → Q (.ref I) s → wpAny (model C.prog C.w) A (pyIter (.ref I)) Q E s
def BindP (C : Cx) (A : Around) (q : Bool) (env : Env) (V : Vo) (nms : List Str) (target : Expr) (Bd : AV → Loc → Loc → Prop) : Prop :=
  ∀ ρ ρ' σ ow s v u (Q : Unit → Shared → Prop) E, SOk C A q env V nms ρ σ ow s → VR C (Zs σ ow (zss V)) s.heap v u → Bd v ρ ρ' →
    (∀ s', SStp (ownX env) V.fs (Own σ ow) (Own σ ow) s s' → SOk C A q env V nms ρ' σ ow s' → Q () s') → wpAny (model C.prog C.w) A (assign target env u) Q E s
theorem BindP.one (F : FEnv env nms V outer) {i : Nat} {x : Str} {pos : Pos} (hx : nms[i]? = some x) : BindP C A q env V nms (.Name x pos) (fun v ρ ρ' => ρ' = setL ρ i v) :=
  fun ρ ρ' σ ow s v u Q E k r e K => by
    subst e
    exact assign_Name (store_snd F hx k r K)
theorem loop_snd (F : FEnv env nms V outer) (hA : A.frames = some V.l) {target : Expr} {Bd : AV → Loc → Loc → Prop} {B : AV → Loc → St → QS → Prop} {body : List Stmt} {I : Addr} {xs : List AV} {G : St → Prop} {inv : Nat → St → (Nat → Option Nat) → Shared → Prop} {W : WS}
    (it : It C A q target V I wr xs G inv) (hB : SndS C A q env (V.plus wr) nms (execs body env) W) (hT : BindP C A q env (V.plus wr) nms target Bd)
    {σ₀ : St} {ow₀ : Nat → Option Nat} {s₀ : Shared} {Qa : QS} {Ea : ES} {Q : Flow → Shared → Prop} {E : Value → Shared → Prop} (hb : C.base.StaysIn s₀.heap) (fr : ∀ b ∈ wr, s₀.heap.get? b = Option.none) (nz : ∀ b ∈ wr, b ∉ V.its)
    (ks : KS C A q env V nms σ₀ ow₀ s₀ Qa Q) (kx : KXS C A q env V nms σ₀ ow₀ s₀ Ea E)
    (hi : inv 0 σ ow s) (k : SOk C A q env (V.plus wr) nms ρ σ ow s) (st : SStp (ownX env) V.fs (Own σ₀ ow₀) (Own σ ow) s₀ s)
    (hBd : ∀ v ρ σ R, B v ρ σ R → ∃ ρ', Bd v ρ ρ' ∧ W ρ' σ R Ea) (w : forL G B xs ρ σ Qa) :
    codeAny (model C.prog C.w) A (.forLoop target (.ref I) body [] env) (fun r s' => match r with | .ok f => Q f s' | .error e => cameBackBy (model C.prog C.w) A env E e s') s := by
  refine codeAny_forLoop_any (fun n s => ∃ i ρ σ ow, n = xs.length - i ∧ i ≤ xs.length ∧ inv i σ ow s ∧ SOk C A q env (V.plus wr) nms ρ σ ow s ∧ SStp (ownX env) V.fs (Own σ₀ ow₀) (Own σ ow) s₀ s ∧
    forL G B (xs.drop i) ρ σ Qa) ?_ xs.length ⟨0, ρ, σ, ow, by omega, by omega, hi, k, st, by simpa using w⟩
  rintro m s ⟨i, ρ, σ, ow, hn, hle, hi, k, st, w⟩
  have nf : ∀ b ∈ V.fs, b ∉ wr := fun b m n => k.ok.good.apart b (List.mem_append_left _ n) m
  by_cases hlt : i < xs.length
  · have hd : xs.drop i = xs[i] :: xs.drop (i + 1) := List.drop_eq_getElem_cons hlt
    rw [hd] at w
    obtain ⟨hG, w⟩ := w
    · refine wpAny_mono (it.next i xs[i] σ ow s _ _ (List.getElem?_eq_getElem hlt) hi k.ok.good hG ?_) (fun r s₁ h₁ => by
        cases r with
        | none => exact False.elim h₁
        | some v => exact h₁) fun _ _ z => z
      intro v h' tk r hi' hk lv
      have k' := k.its (t := tk) F hk lv
      have st' := st.its (t := tk) nf hk fr
      obtain ⟨ρ', hbd, w⟩ := hBd _ _ _ _ w
      refine hT ρ ρ' σ ow _ _ v _ _ k' r hbd fun s₂ st₂ k₂ => ?_
      have st₂' := st'.trans st₂
      have hi₂ := it.step _ (i + 1) σ ow _ σ ow s₂ hi' k'.ok.good st₂ k₂.ok.good hG
      refine hB _ σ ow s₂ _ Ea _ _ w k₂ (fun fl af ρ₃ σ₃ ow₃ s₃ z st₃ k₃ rf => ?_) (fun e c ρ₃ σ₃ ow₃ s₃ z st₃ k₃ th => ?_)
      · cases rf with
        | next =>
          have z : forL G B (xs.drop (i + 1)) ρ₃ σ₃ Qa := z
          have hG3 : G σ₃ := by
            cases hdd : xs.drop (i + 1) with
            | nil => rw [hdd] at z; exact z.1
            | cons y ys => rw [hdd] at z; exact z.1
          exact ⟨xs.length - (i + 1), by omega, i + 1, ρ₃, σ₃, ow₃, rfl, hlt, it.step _ (i + 1) σ ow _ σ₃ ow₃ s₃ hi₂ k₂.ok.good st₃ k₃.ok.good hG3, k₃, st₂'.trans st₃, z⟩
        | ret r' => exact ks _ _ ρ₃ σ₃ ow₃ s₃ z (st₂'.trans st₃) k₃.close_ (.ret (r'.kp (fun _ _ e _ => e) fun b z => .inl (zs_plus z)))
      · exact noted_snd F hA hb (st₂'.trans st₃) k₃.close_ (ThrA.up (st₂'.back k₂.ok.good) (th.mono (fun _ z => z) fun _ z => zs_plus z)) z kx
  · have he : i = xs.length := by omega
    subst he
    rw [List.drop_length] at w
    obtain ⟨hG, w⟩ := w
    refine it.done σ ow s _ _ hi k.ok.good k.ok.hnd hG fun h' tk hk => ?_
    exact wpAny_execs_nil (ks _ _ ρ σ ow _ w (st.its nf hk fr) (k.drop F nz hk) .next)
end
end Ap
end
section
set_option Elab.async false
set_option linter.unusedVariables false
set_option linter.unusedSimpArgs false
namespace Ap
open PySem PySem.Calls PyProof.Rows
section
variable {C : Cx} {A : Around} {q : Bool} {env : Env} {V : Vo} {nms : List Str} {ρ : Loc} {σ σ' : St} {ow ow' : Nat → Option Nat} {s s' : Shared} {outer : List Env} {wr : List Addr}
theorem owned_list {target : Expr} {I l : Addr} {i : Nat} {v : Value} {Q : Unit → Shared → Prop} {E : Value → Shared → Prop} (hit : s.heap.IsListIter I l i) (hQ : Q () s) : wpAny (model C.prog C.w) A (letOwnedTupleGo target (.ref I) v) Q E s := by
  obtain ⟨o, ho, hc, hd⟩ := hit
  have key : wpAny (model C.prog C.w) A (do
      let (.ref r, .ref a) := ((.ref I : Value), v) | return
      let o ← load r
      match o.cls, o.data with
      | .type n, .fields vs =>
        if ["enumerate", "zip", "dict_itemiterator", "dict_reverseitemiterator", "odict_iterator", "itertools.zip_longest", "itertools.pairwise"].contains n && vs[0]? == some (rawInt a) then
          rule "for.unpacks-the-owned-tuple"
          updateField r 0 .none
      | _, _ => pure ()) Q E s := by
    cases v <;> first | exact wpAny_pure hQ | skip
    refine wpAny_bind (wpAny_load ho ?_)
    rw [hc, hd]
    exact wpAny_pure hQ
  unfold letOwnedTupleGo
  cases target <;> first | exact key | exact wpAny_pure hQ
theorem it_keep {X : List Addr} {I : Addr} {o : Obj} (G : Good C (V.plus wr) σ ow s) (hI : I ∈ wr) (x : SStp X V.fs (Own σ ow) (Own σ' ow') s s') (e : s.heap.get? I = some o) : s'.heap.get? I = some o :=
  x.keep I o e (G.off I (Vo.plus_wr hI)) (G.apart I (List.mem_append_left _ hI))
theorem HOk.low {Z : Nat → Prop} {h : Heap} (x : HOk A q Z h) : HLow A h := x.imp id fun ⟨_, e, o, vs, h1, h2, h3, h4, _⟩ => ⟨e, o, vs, h1, h2, h3, h4⟩
theorem HOk.ne {Z : Nat → Prop} {h : Heap} {I : Addr} (x : HOk A q Z h) (hI : Z I) (e : Addr) (he : A.handled = some (.ref e)) : e ≠ I := by
  rcases x with x | ⟨_, e', o, vs, h1, h2, h3, h4, h5⟩
  · rw [x] at he; cases he
  · rw [h1] at he; cases he; exact fun q => h5 (q ▸ hI)
def invI (C : Cx) (V : Vo) (I ax : Addr) (vs : List Value) (xs : List AV) (i : Nat) (σ : St) (ow : Nat → Option Nat) (s : Shared) : Prop :=
  s.heap.IsListIter I ax i ∧ IsL s.heap ax vs ∧ VRs C (Zs σ ow (zss (V.plus [I]))) s.heap xs vs ∧ ¬ Zs σ ow (zss (V.plus [I])) ax
theorem It.ilist {target : Expr} {I ax : Addr} {vs : List Value} {xs : List AV} {G : St → Prop} : It C A q target V I [I] xs G (invI C V I ax vs xs) where
  step := fun X i σ ow s σ' ow' s' ⟨⟨o, e1, e2, e3⟩, li, r, n⟩ g x g' _ => by
    have li' := li.kp (x.kp (zs := zss (V.plus [I])) (V.plus [I]).sub) n
    refine ⟨⟨o, it_keep g (by simp) x e1, e2, e3⟩, li', SStp.vrs (envs := V.plus [I]) x r, ?_⟩
    obtain ⟨_, m, e⟩ := li
    exact (x.zg (zs := zss (V.plus [I]))).not e n
  next := fun i x σ ow s Q E hx ⟨it, li, r, n⟩ g _ h => by
    obtain ⟨u, hu, ru⟩ := r.get i x hx
    obtain ⟨hh, gg, dd, tt, oo⟩ := s
    refine wpAny_pyNext_list_item it li.isList (by simpa using hu) fun h' it' hs => ?_
    have hk : ∀ b o, b ∉ [I] → hh.get? b = some o → h'.get? b = some o := fun b o nb e => (hs.2 b (by simpa using nb)).trans e
    have hK : Kp (Zs σ ow (zss (V.plus [I]))) hh h' := fun b o e nb => hk b o (fun m => nb (.inr (Vo.plus_wr m))) e
    exact owned_list (s := ⟨h', gg, dd, tt, oo⟩) it' (h u h' tt (ru.kp hK (Zg.refl _ _)) ⟨it', li.kp hK n, r.kp hK (Zg.refl _ _), n⟩ hk fun b m => by
      obtain ⟨o, e, _⟩ := it'
      exact ⟨o, by rw [List.mem_singleton.mp m]; exact e⟩)
  done := fun σ ow s Q E ⟨it, li, r, n⟩ g hh _ h => by
    obtain ⟨hp, gg, dd, tt, oo⟩ := s
    refine next_list_end' hh.low it li.isList (by rw [List.getElem?_toArray, List.getElem?_eq_none]; rw [r.length]; exact Nat.le_refl _) (fun e he => hh.ne (.inr (Vo.plus_wr (by simp))) e he) fun h' hx lv => ?_
    exact h h' tt (fun b o nb e => hx b o (by simpa using nb) e)
  move := fun i σ ow s h' tk ⟨⟨o, e1, e2, e3⟩, li, r, n⟩ g k => by
    have hK : Kp (Zs σ ow (zss (V.plus [I]))) s.heap h' := fun b o e nb => k b o (fun m => absurd (.inr (Vo.plus_sub b (List.mem_append_right _ m))) nb) e
    exact ⟨⟨o, k _ _ (fun _ => by simp) e1, e2, e3⟩, li.kp hK n, r.kp hK (Zg.refl _ _), n⟩
  self := fun i σ ow s Q E ⟨it, _⟩ g h => wpAny_pyIter_listiter it h
theorem It.own {target : Expr} {I a : Addr} {xs : List AV} : It C A q target V I [I] xs (fun σ => σ a = some (.list xs)) (fun i σ ow s => s.heap.IsListIter I a i) where
  step := fun X i σ ow s σ' ow' s' ⟨o, e1, e2, e3⟩ g x g' _ => ⟨o, it_keep g (by simp) x e1, e2, e3⟩
  next := fun i x σ ow s Q E hx it g hG h => by
    obtain ⟨vs, li, r⟩ := g.store _ _ hG
    obtain ⟨u, hu, ru⟩ := r.get i x hx
    obtain ⟨hh, gg, dd, tt, oo⟩ := s
    refine wpAny_pyNext_list_item it li.isList (by simpa using hu) fun h' it' hs => ?_
    have hk : ∀ b o, b ∉ [I] → hh.get? b = some o → h'.get? b = some o := fun b o nb e => (hs.2 b (by simpa using nb)).trans e
    have hK : Kp (Zs σ ow (zss (V.plus [I]))) hh h' := fun b o e nb => hk b o (fun m => nb (.inr (Vo.plus_wr m))) e
    exact owned_list (s := ⟨h', gg, dd, tt, oo⟩) it' (h u h' tt (ru.kp hK (Zg.refl _ _)) it' hk fun b m => by
      obtain ⟨o, e, _⟩ := it'
      exact ⟨o, by rw [List.mem_singleton.mp m]; exact e⟩)
  done := fun σ ow s Q E it g hh hG h => by
    obtain ⟨vs, li, r⟩ := g.store _ _ hG
    obtain ⟨hp, gg, dd, tt, oo⟩ := s
    refine next_list_end' hh.low it li.isList (by rw [List.getElem?_toArray, List.getElem?_eq_none]; rw [r.length]; exact Nat.le_refl _) (fun e he => hh.ne (.inr (Vo.plus_wr (by simp))) e he) fun h' hx lv => ?_
    exact h h' tt (fun b o nb e => hx b o (by simpa using nb) e)
  move := fun i σ ow s h' tk ⟨o, e1, e2, e3⟩ g k => ⟨o, k _ _ (fun _ => by simp) e1, e2, e3⟩
  self := fun i σ ow s Q E it g h => wpAny_pyIter_listiter it h
end
end Ap
end
section
set_option Elab.async false
set_option linter.unusedVariables false
set_option linter.unusedSimpArgs false
set_option linter.unusedSectionVars false
namespace Ap
open PySem PySem.Calls PyProof.Rows
def plainBase : Expr → Bool
  | .Name .. => true
  | .Attribute .. => true
  | .Subscript .. => true
  | .Constant .. => true
  | _ => false
theorem base_plain {o : Expr} {name : Str} {env : Env} {t : Sem Value} (h : plainBase o = true) : attributeBase o name env t = t := by
  cases o <;> first | rfl | exact Bool.noConfusion h
def gl (sc : Scope) (x : Str) : Bool := sc.names.lookup x == some .globalImplicit && !(x == ("__debug__" : Str)) && !(x == ("__name__" : Str))
def notThru : Expr → Bool
  | .UnaryOp .Not .. => false
  | .BoolOp .. => false
  | .IfExp .. => false
  | .Compare .. => false
  | _ => true
def wT (w : WE) : WBl := fun ρ σ Q E => w ρ σ (onT Q) E
structure Both (C : Cx) (d : Nat) (sc : Scope) (nms : List Str) (q : Bool) (w : WE) (x : Expr) : Prop where
  ev : ∀ A env envs ρ, env.scope = sc → AOk A envs d → Snd C A q env envs nms ρ (RV C) (eval x env) (w ρ)
  tr : ∀ A env envs ρ, env.scope = sc → AOk A envs d → Snd C A q env envs nms ρ (RB C) (isTrue x env (eval x env)) (wT w ρ)
inductive BothL (C : Cx) (d : Nat) (sc : Scope) (nms : List Str) (q : Bool) : WL → List Expr → Prop
  | nil : BothL C d sc nms q lNil []
  | cons {e : WE} {x : Expr} {es : WL} {xs : List Expr} : Both C d sc nms q e x → notStar x = true → BothL C d sc nms q es xs → BothL C d sc nms q (lCons e es) (x :: xs)
inductive BothBl (C : Cx) (d : Nat) (sc : Scope) (nms : List Str) (q and : Bool) : WBl → List Expr → Prop
  | one {e : WE} {x : Expr} : Both C d sc nms q e x → BothBl C d sc nms q and (blCons and e (blNil and)) [x]
  | cons {e : WE} {x y : Expr} {r : WBl} {xs : List Expr} : Both C d sc nms q e x → BothBl C d sc nms q and r (y :: xs) → BothBl C d sc nms q and (blCons and e r) (x :: y :: xs)
inductive BothC (C : Cx) (d : Nat) (sc : Scope) (nms : List Str) (q : Bool) : (AV → WBl) → List CmpOp → List Expr → Prop
  | one {f : OC} {op : CmpOp} {e : WE} {x : Expr} : CmpSnd C op f → Both C d sc nms q e x → BothC C d sc nms q (cCons f e cNil) [op] [x]
  | cons {f : OC} {op o' : CmpOp} {e : WE} {x y : Expr} {r : AV → WBl} {os : List CmpOp} {xs : List Expr} : CmpSnd C op f → Both C d sc nms q e x → BothC C d sc nms q r (o' :: os) (y :: xs) → BothC C d sc nms q (cCons f e r) (op :: o' :: os) (x :: y :: xs)
section
variable {C : Cx} {T : Tabs} {P : Prg} {F : Calls} {d : Nat} {sc : Scope} {nms : List Str} {q : Bool}
theorem isTrue_else {x : Expr} {env : Env} {t : Sem Value} (h : notThru x = true) : isTrue x env t = (do let v ← t; standAt x.pos; holding [v] (truthy v)) := by
  cases x with
  | UnaryOp op y p => cases op <;> first | rfl | exact Bool.noConfusion h
  | _ => first | rfl | exact Bool.noConfusion h
theorem onT_of {R : Bool → St → Prop} {v : AV} {σ : St} {Z : Nat → Prop} {h : Heap} {u : Value} (r : VR C Z h v u) (w : onT R v σ) : ∃ b, v = .bool b ∧ u = .bool b ∧ R b σ := by
  cases r <;> first | exact False.elim w | exact ⟨_, rfl, rfl, w⟩
theorem Both.of {w : WE} {x : Expr} (h : notThru x = true) (ev : ∀ A env envs ρ, env.scope = sc → AOk A envs d → Snd C A q env envs nms ρ (RV C) (eval x env) (w ρ)) : Both C d sc nms q w x where
  ev := ev
  tr := fun A env envs ρ hs ha σ ow s Qa Ea Q E w ok kv kx => by
    rw [isTrue_else h]
    refine wpAny_bind (ev A env envs ρ hs ha σ ow s _ Ea _ E w ok (fun v av σ' ow' s' z st g r => ?_) kx)
    refine wpAny_bind (wpAny_standAt (wpAny_holding ?_))
    obtain ⟨b, rfl, rfl, z⟩ := onT_of r z
    exact wpAny_truthy_bool (kv _ _ σ' ow' s' z st g rfl)
theorem BothL.stars {es : WL} {xs : List Expr} (h : BothL C d sc nms q es xs) : xs.all notStar = true := by
  induction h with
  | nil => rfl
  | cons _ h2 _ ih => rw [List.all_cons, h2, ih]; rfl
def RLn (C : Cx) (n : Nat) (Z : Nat → Prop) (h : Heap) (av : List AV) (v : List Value) : Prop := VRs C Z h av v ∧ v.length = n
theorem BothL.snd {A : Around} {env : Env} {envs : Vo} {ρ : Loc} {pos : Pos} (hs : env.scope = sc) (ha : AOk A envs d) {es : WL} {xs : List Expr} (h : BothL C d sc nms q es xs) :
    Snd C A q env envs nms ρ (RLn C xs.length) (spliced (backTo pos (starEach xs env))) (es ρ) := by
  induction h with
  | nil => exact fun σ ow s Qa Ea Q E w ok kv kx => spliced_nil (kv _ _ σ ow s w (Stp.refl _ _ _) ok.good ⟨.nil, rfl⟩)
  | cons h1 h2 _ ih =>
    intro σ ow s Qa Ea Q E w ok kv kx
    rw [starEach_cons h2]
    refine spliced_cons (h1.ev A env envs ρ hs ha σ ow s _ Ea _ E w ok (fun v av σ' ow' s' z st g r => ?_) kx)
    refine ih σ' ow' s' _ Ea _ E z (ok.stp st g) (fun vs avs σ'' ow'' s'' z' st' g' r' => ?_) (kx.stp st g)
    exact kv _ _ σ'' ow'' s'' z' (st.trans st') g' ⟨.cons (st'.vr r) r'.1, congrArg Nat.succ r'.2⟩
variable {A : Around} {env : Env} {envs : Vo} {ρ : Loc} {pos : Pos} {σ : St} {ow : Nat → Option Nat} {s : Shared}
theorem brBl_cases {r : WBl} {ρ : Loc} {Q : Bool → St → Prop} {E : PE} {b and : Bool} {σ : St} (z : kBl and r ρ Q E b σ) : (b = and ∧ r ρ σ Q E) ∨ (b ≠ and ∧ Q b σ) := by
  cases b <;> cases and <;> first | exact .inl ⟨rfl, z⟩ | exact .inr ⟨by decide, z⟩
theorem BothBl.ev (hs : env.scope = sc) (ha : AOk A envs d) {and : Bool} {r : WBl} {xs : List Expr} (h : BothBl C d sc nms q and r xs) :
    Snd C A q env envs nms ρ (fun _ _ (b : Bool) (v : Value) => v = .bool b) (boolOp pos (if and then .And else .Or) (evalEach xs env)) (r ρ) := by
  induction h with
  | @one e x h =>
    intro σ ow s Qa Ea Q E w ok kv kx
    show wpAny _ _ (eval x env) _ _ _
    refine h.ev A env envs ρ hs ha σ ow s _ Ea _ E w ok (fun v av σ' ow' s' z st g r => ?_) kx
    obtain ⟨b, rfl, rfl, z⟩ := onT_of r z
    refine kv (.bool b) b σ' ow' s' ?_ st g rfl
    rcases brBl_cases z with ⟨rfl, z⟩ | ⟨_, z⟩
    · exact z
    · exact z
  | @cons e x y r xs h _ ih =>
    intro σ ow s Qa Ea Q E w ok kv kx
    show wpAny _ _ (do
      let v ← eval x env
      standAt pos
      let t ← holding [v] (truthy v)
      match (if and then BoolOp.And else .Or), t with
      | .And, false | .Or, true => pure v
      | _, _ => boolOp pos (if and then BoolOp.And else .Or) (evalEach (y :: xs) env)) _ _ _
    refine wpAny_bind (h.ev A env envs ρ hs ha σ ow s _ Ea _ E w ok (fun v av σ' ow' s' z st g r => ?_) kx)
    refine wpAny_bind (wpAny_standAt (wpAny_bind (wpAny_holding ?_)))
    obtain ⟨b, rfl, rfl, z⟩ := onT_of r z
    refine wpAny_truthy_bool ?_
    rcases brBl_cases z with ⟨hb, z'⟩ | ⟨hb, z'⟩
    · have R := ih σ' ow' s' Qa Ea Q E z' (ok.stp st g) (kv.stp st) (kx.stp st g)
      subst hb
      cases b <;> exact R
    · have R := kv _ _ σ' ow' s' z' st g rfl
      cases and <;> cases b <;> first | exact absurd rfl hb | exact wpAny_pure R
theorem BothBl.tr (hs : env.scope = sc) (ha : AOk A envs d) {and : Bool} {r : WBl} {xs : List Expr} (h : BothBl C d sc nms q and r xs) :
    Snd C A q env envs nms ρ (RB C) (allTrue (if and then .And else .Or) xs env) (r ρ) := by
  have step : ∀ (e : WE) (x : Expr) (xs : List Expr) (r : WBl), Both C d sc nms q e x → Snd C A q env envs nms ρ (RB C) (allTrue (if and then .And else .Or) xs env) (r ρ) → Snd C A q env envs nms ρ (RB C) (allTrue (if and then .And else .Or) (x :: xs) env) (blCons and e r ρ) := by
    intro e x xs r h ih σ ow s Qa Ea Q E w ok kv kx
    show wpAny _ _ (do
      match (if and then BoolOp.And else .Or), ← isTrue x env (eval x env) with
      | .And, false => pure false
      | .Or, true => pure true
      | _, _ => PySem.allTrue (if and then BoolOp.And else .Or) xs env) _ _ _
    refine wpAny_bind (h.tr A env envs ρ hs ha σ ow s _ Ea _ E w ok (fun v b σ' ow' s' z st g r => ?_) kx)
    have r' : b = v := r
    subst r'
    rcases brBl_cases z with ⟨hb, z'⟩ | ⟨hb, z'⟩
    · have R := ih σ' ow' s' Qa Ea Q E z' (ok.stp st g) (kv.stp st) (kx.stp st g)
      subst hb
      cases b <;> exact R
    · have R := kv _ _ σ' ow' s' z' st g rfl
      cases and <;> cases b <;> first | exact absurd rfl hb | exact wpAny_pure R
  induction h with
  | one h =>
    refine step _ _ _ _ h fun σ ow s Qa Ea Q E w ok kv kx => wpAny_pure (kv _ _ σ ow s w (Stp.refl _ _ _) ok.good ?_)
    cases and <;> rfl
  | cons h _ ih => exact step _ _ _ _ h ih
theorem kCh_cases {vb : AV} {r : AV → WBl} {ρ : Loc} {Q : Bool → St → Prop} {E : PE} {σ : St} {b : Bool} (z : kCh2 vb r ρ Q E σ b) : (b = false ∧ Q false σ) ∨ (b = true ∧ r vb ρ σ Q E) := by
  cases b
  · exact .inl ⟨rfl, z⟩
  · exact .inr ⟨rfl, z⟩
theorem BothC.ev (hs : env.scope = sc) (ha : AOk A envs d) {r : AV → WBl} {cs : List CmpOp} {xs : List Expr} (h : BothC C d sc nms q r cs xs) :
    ∀ (va : AV) (a : Value) (σ : St) (ow : Nat → Option Nat) (s : Shared) (Qa : Bool → St → Prop) (Ea : PE) (Q : Value → Shared → Prop) (E : Value → Shared → Prop), VR C (Zs σ ow (zss envs)) s.heap va a →
    r va ρ σ Qa Ea → Ok C A q env envs nms ρ σ ow s → KV C envs σ ow s (fun _ _ (b : Bool) (v : Value) => v = .bool b) Qa Q → KX C envs σ ow s Ea E →
    wpAny (model C.prog C.w) A (compareChain pos a cs (evalEach xs env)) Q E s := by
  induction h with
  | one hf h =>
    intro va a σ ow s Qa Ea Q E ra w ok kv kx
    refine chain_last (h.ev A env envs ρ hs ha σ ow s _ Ea _ E w ok (fun v av σ' ow' s' z st g r => ?_) kx)
    refine hf A envs σ' ow' s' _ _ _ _ _ _ _ ha.u64 g (st.vr ra) r z fun b t hb => kv _ b σ' ow' _ ?_ (st.tk t) (g.tk t) rfl
    rcases kCh_cases hb with ⟨rfl, z⟩ | ⟨rfl, z⟩ <;> exact z
  | cons hf h _ ih =>
    intro va a σ ow s Qa Ea Q E ra w ok kv kx
    refine chain_link (h.ev A env envs ρ hs ha σ ow s _ Ea _ E w ok (fun v av σ' ow' s' z st g r => ?_) kx)
    refine hf A envs σ' ow' s' _ _ _ _ _ _ _ ha.u64 g (st.vr ra) r z fun b t hb => ?_
    refine wpAny_truthy_bool ?_
    rcases kCh_cases hb with ⟨rfl, z⟩ | ⟨rfl, z⟩
    · exact kv _ false σ' ow' _ z (st.tk t) (g.tk t) rfl
    · exact ih _ _ σ' ow' _ Qa Ea Q E r z (ok.stp (st.tk t) (g.tk t)) (kv.stp (st.tk t)) (kx.stp (st.tk t) (g.tk t))
theorem BothC.tr (hs : env.scope = sc) (ha : AOk A envs d) {r : AV → WBl} {cs : List CmpOp} {xs : List Expr} (h : BothC C d sc nms q r cs xs) :
    ∀ (va : AV) (a : Value) (σ : St) (ow : Nat → Option Nat) (s : Shared) (Qa : Bool → St → Prop) (Ea : PE) (Q : Bool → Shared → Prop) (E : Value → Shared → Prop), VR C (Zs σ ow (zss envs)) s.heap va a →
    r va ρ σ Qa Ea → Ok C A q env envs nms ρ σ ow s → KV C envs σ ow s (RB C) Qa Q → KX C envs σ ow s Ea E →
    wpAny (model C.prog C.w) A (testChain pos a cs (evalEach xs env)) Q E s := by
  induction h with
  | one hf h =>
    intro va a σ ow s Qa Ea Q E ra w ok kv kx
    refine test_last (h.ev A env envs ρ hs ha σ ow s _ Ea _ E w ok (fun v av σ' ow' s' z st g r => ?_) kx)
    refine hf A envs σ' ow' s' _ _ _ _ _ _ _ ha.u64 g (st.vr ra) r z fun b t hb => wpAny_truthy_bool (kv _ b σ' ow' _ ?_ (st.tk t) (g.tk t) rfl)
    rcases kCh_cases hb with ⟨rfl, z⟩ | ⟨rfl, z⟩ <;> exact z
  | cons hf h _ ih =>
    intro va a σ ow s Qa Ea Q E ra w ok kv kx
    refine test_link (h.ev A env envs ρ hs ha σ ow s _ Ea _ E w ok (fun v av σ' ow' s' z st g r => ?_) kx)
    refine hf A envs σ' ow' s' _ _ _ _ _ _ _ ha.u64 g (st.vr ra) r z fun b t hb => ?_
    refine wpAny_truthy_bool ?_
    rcases kCh_cases hb with ⟨rfl, z⟩ | ⟨rfl, z⟩
    · exact kv _ false σ' ow' _ z (st.tk t) (g.tk t) rfl
    · exact ih _ _ σ' ow' _ Qa Ea Q E r z (ok.stp (st.tk t) (g.tk t)) (kv.stp (st.tk t)) (kx.stp (st.tk t) (g.tk t))
end
end Ap
end
section
set_option Elab.async false
set_option linter.unusedVariables false
set_option linter.unusedSimpArgs false
set_option linter.unusedSectionVars false
namespace Ap
open PySem PySem.Calls PyProof.Rows
section
variable {C : Cx} {T : Tabs} {P : Prg} {F : Calls} {d : Nat} {sc : Scope} {nms : List Str} {q : Bool}
theorem Both.var {i : Nat} {n : Str} {pos : Pos} (h1 : nms[i]? = some n) (h2 : (n == ("__debug__" : Str)) = false) (h3 : (n == ("__classdict__" : Str)) = false) : Both C d sc nms q (vVar i) (.Name n pos) :=
  .of rfl fun A env envs ρ hs ha σ ow s Qa Ea Q E w ok kv kx => by
    obtain ⟨v, e, w⟩ := lookV_some w
    exact var_snd h1 h2 h3 ok kv e w
theorem Both.none {k : Nat} {pos : Pos} : Both C d sc nms q (vC .none) (.Constant .none k pos) :=
  .of rfl fun A env envs ρ hs ha σ ow s Qa Ea Q E w ok kv kx => wpAny_Constant_none (kv.here ok.good w .none)
theorem Both.bool {b : Bool} {k : Nat} {pos : Pos} : Both C d sc nms q (vC (.bool b)) (.Constant (.bool b) k pos) :=
  .of rfl fun A env envs ρ hs ha σ ow s Qa Ea Q E w ok kv kx => wpAny_Constant_bool (kv.here ok.good w (.bool b))
theorem Both.int {i : Int} {k : Nat} {pos : Pos} : Both C d sc nms q (vC (.int i)) (.Constant (.int i) k pos) :=
  .of rfl fun A env envs ρ hs ha σ ow s Qa Ea Q E w ok kv kx => wpAny_Constant_int (kv.val ok.good _ w (.int i _))
theorem Both.str {x : Str} {k : Nat} {pos : Pos} (h : PyData.strOk x = true) : Both C d sc nms q (vC (.str x)) (.Constant (.str x) k pos) :=
  .of rfl fun A env envs ρ hs ha σ ow s Qa Ea Q E w ok kv kx => wpAny_Constant_str (kv.val ok.good _ w (.str x _ h))
theorem gl_of {x : Str} (h : gl sc x = true) : sc.names.lookup x = some .globalImplicit ∧ (x == ("__debug__" : Str)) = false ∧ x ≠ "__name__" := by
  unfold gl at h
  rw [Bool.and_eq_true, Bool.and_eq_true, beq_iff_eq, Bool.not_eq_true', Bool.not_eq_true'] at h
  exact ⟨h.1.1, h.1.2, fun e => by rw [e] at h; exact absurd h.2 (by decide)⟩
theorem Both.tup {es : WL} {xs : List Expr} {k : Nat} {pos : Pos} (h : BothL C d sc nms q es xs) (hl : xs.length ≤ 1000) : Both C d sc nms q (vTup es) (.Tuple xs k pos) :=
  .of rfl fun A env envs ρ hs ha σ ow s Qa Ea Q E w ok kv kx => by
    refine wpAny_Tuple (h.snd hs ha σ ow s _ Ea _ E w ok (fun vs avs σ' ow' s' z st g r => ?_) kx)
    have hv : vs.length ≤ 1000 := by rw [r.2]; exact hl
    refine ⟨by unfold sizeLine; omega, ?_⟩
    obtain ⟨hh, gg, dd, tt, oo⟩ := s'
    exact (kv.stp st).pushed g tt z (.tup ⟨by omega, _, Heap.get?_push_size _ rfl⟩ g.newZ (r.1.kp (fun _ _ e _ => Heap.get?_push_of_some _ e) (Zg.refl _ _)))
theorem Both.lst {own : Bool} {es : WL} {xs : List Expr} {pos : Pos} (h : BothL C d sc nms q es xs) (hl : xs.length ≤ 1000) : Both C d sc nms q (vLst own es) (.List xs pos) :=
  .of rfl fun A env envs ρ hs ha σ ow s Qa Ea Q E w ok kv kx => by
    refine wpAny_List (h.snd hs ha σ ow s _ Ea _ E w ok (fun vs avs σ' ow' s' z st g r => ?_) kx)
    have hv : vs.length ≤ 1000 := by rw [r.2]; exact hl
    refine ⟨by unfold sizeLine; omega, ?_⟩
    obtain ⟨hh, gg, dd, tt, oo⟩ := s'
    exact mkL_snd g (kv.stp st) tt (by omega) z r.1
theorem Both.bin {f : O2} {op : Operator} {a b : WE} {l r : Expr} {pos : Pos} (hf : BinSnd C op f) (ha' : Both C d sc nms q a l) (hb : Both C d sc nms q b r) : Both C d sc nms q (vO2 f a b) (.BinOp l op r pos) :=
  .of rfl fun A env envs ρ hs ha σ ow s Qa Ea Q E w ok kv kx => by
    refine wpAny_BinOp (ha'.ev A env envs ρ hs ha σ ow s _ Ea _ E w ok (fun va a σ' ow' s' z st g r => ?_) kx)
    refine hb.ev A env envs ρ hs ha σ' ow' s' _ Ea _ E z (ok.stp st g) (fun vb b σ'' ow'' s'' z' st' g' r' => ?_) (kx.stp st g)
    exact hf A envs σ'' ow'' s'' _ _ _ _ _ _ _ g' ((kv.stp st).stp st') (st'.vr r) r' z'
theorem Both.idx {f : O2} {e i : WE} {v sl : Expr} {pos : Pos} (hf : IdxSnd C f) (he : Both C d sc nms q e v) (hi : Both C d sc nms q i sl) (hp : ∀ o i, subscripted sl false o i = operate [o, i] (getItem o i)) : Both C d sc nms q (vO2 f e i) (.Subscript v sl pos) :=
  .of rfl fun A env envs ρ hs ha σ ow s Qa Ea Q E w ok kv kx => by
    refine Subscript_ (he.ev A env envs ρ hs ha σ ow s _ Ea _ E w ok (fun va a σ' ow' s' z st g r => ?_) kx)
    refine hi.ev A env envs ρ hs ha σ' ow' s' _ Ea _ E z (ok.stp st g) (fun vb b σ'' ow'' s'' z' st' g' r' => ?_) (kx.stp st g)
    exact hf A envs σ'' ow'' s'' _ _ _ _ _ _ _ _ _ hp g' ((kv.stp st).stp st') (st'.vr r) r' z'
theorem Both.slice {own : Bool} {lo hi : Nat} {li hj : Int} {e : WE} {v : Expr} {k1 k2 : Nat} {p1 p2 pp pos : Pos} (h1 : li = (lo : Int)) (h2 : hj = (hi : Int)) (he : Both C d sc nms q e v) :
    Both C d sc nms q (vO1 (oSl own lo hi) e) (.Subscript v (.Slice (some (.Constant (.int li) k1 p1)) (some (.Constant (.int hj) k2 p2)) Option.none pp) pos) :=
  .of rfl fun A env envs ρ hs ha σ ow s Qa Ea Q E w ok kv kx => by
    subst h1 h2
    refine Subscript_ (he.ev A env envs ρ hs ha σ ow s _ Ea _ E w ok (fun va a σ' ow' s' z st g r => ?_) kx)
    refine wpAny_Slice (wpAny_Constant_int (k := k1) (pos := p1) (wpAny_Constant_int (k := k2) (pos := p2) (wpAny_pure ?_)))
    exact slice_L (s := { s' with toks := s'.toks + 1 + 1 }) (g.tk _) ((kv.stp st).stp (Stp.toks _)) r z
theorem onI_of {f : Int → St → PQ → Prop} {v : AV} {σ : St} {Q : PQ} {Z : Nat → Prop} {h : Heap} {u : Value} (r : VR C Z h v u) (w : onI f v σ Q) : ∃ i t, u = .int i t ∧ f i σ Q := by
  cases r <;> first | exact False.elim w | exact ⟨_, _, rfl, w⟩
theorem Both.neg {a : WE} {x : Expr} {pos : Pos} (ha' : Both C d sc nms q a x) : Both C d sc nms q (vO1 oNeg a) (.UnaryOp .USub x pos) :=
  .of rfl fun A env envs ρ hs ha σ ow s Qa Ea Q E w ok kv kx => by
    refine wpAny_UnaryOp (ha'.ev A env envs ρ hs ha σ ow s _ Ea _ E w ok (fun va a σ' ow' s' z st g r => ?_) kx)
    obtain ⟨i, t, rfl, z⟩ := onI_of (f := fun x σ Q => Q (.int (-x)) σ) (Q := Qa) r z
    exact PyProof.Rows.neg_int ((kv.stp st).val g _ z (.int _ _))
theorem Both.not {a : WE} {x : Expr} {pos : Pos} (ha' : Both C d sc nms q a x) : Both C d sc nms q (vO1 oNot a) (.UnaryOp .Not x pos) where
  ev := fun A env envs ρ hs ha σ ow s Qa Ea Q E w ok kv kx => by
    refine wpAny_UnaryOp (ha'.ev A env envs ρ hs ha σ ow s _ Ea _ E w ok (fun va a σ' ow' s' z st g r => ?_) kx)
    obtain ⟨b, rfl, rfl, z⟩ := onT_of (R := fun b σ => Qa (.bool (!b)) σ) r z
    exact not_value (wpAny_truthy_bool ((kv.stp st).here g z (.bool _)))
  tr := fun A env envs ρ hs ha σ ow s Qa Ea Q E w ok kv kx => by
    rw [arm_isTrue_UnaryOp]
    have w' : wT a ρ σ (fun b σ' => Qa (!b) σ') Ea := w
    refine wpAny_bind (ha'.tr A env envs ρ hs ha σ ow s _ Ea _ E w' ok (fun v b σ' ow' s' z st g r => ?_) kx)
    have r' : b = v := r
    subst r'
    exact wpAny_pure (kv _ _ σ' ow' s' z st g rfl)
theorem Both.bl {and : Bool} {r : WBl} {xs : List Expr} {pos : Pos} (h : BothBl C d sc nms q and r xs) : Both C d sc nms q (vBl r) (.BoolOp (if and then .And else .Or) xs pos) where
  ev := fun A env envs ρ hs ha σ ow s Qa Ea Q E w ok kv kx => by
    rw [arm_eval_BoolOp]
    refine h.ev hs ha σ ow s _ Ea _ E w ok (fun v b σ' ow' s' z st g r => ?_) kx
    subst r
    exact kv _ _ σ' ow' s' z st g (.bool b)
  tr := fun A env envs ρ hs ha σ ow s Qa Ea Q E w ok kv kx => by
    rw [arm_isTrue_BoolOp]
    exact h.tr hs ha σ ow s _ Ea _ E w ok kv kx
theorem Both.and {r : WBl} {xs : List Expr} {pos : Pos} (h : BothBl C d sc nms q true r xs) : Both C d sc nms q (vBl r) (.BoolOp .And xs pos) := Both.bl (and := true) h
theorem Both.or {r : WBl} {xs : List Expr} {pos : Pos} (h : BothBl C d sc nms q false r xs) : Both C d sc nms q (vBl r) (.BoolOp .Or xs pos) := Both.bl (and := false) h
theorem Both.cmp {a : WE} {l : Expr} {r : AV → WBl} {cs : List CmpOp} {xs : List Expr} {pos : Pos} (ha' : Both C d sc nms q a l) (h : BothC C d sc nms q r cs xs) (hm : lastMarks cs xs = false) : Both C d sc nms q (vCmp a r) (.Compare l cs xs pos) where
  ev := fun A env envs ρ hs ha σ ow s Qa Ea Q E w ok kv kx => by
    rw [arm_eval_Compare, markedEach_of_false _ _ _ hm]
    refine wpAny_bind (ha'.ev A env envs ρ hs ha σ ow s _ Ea _ E w ok (fun v av σ' ow' s' z st g r => ?_) kx)
    refine h.ev hs ha _ _ σ' ow' s' _ Ea _ E r z (ok.stp st g) (fun v b σ'' ow'' s'' z' st' g' r' => ?_) (kx.stp st g)
    subst r'
    exact kv _ _ σ'' ow'' s'' z' (st.trans st') g' (.bool b)
  tr := fun A env envs ρ hs ha σ ow s Qa Ea Q E w ok kv kx => by
    rw [arm_isTrue_Compare, markedEach_of_false _ _ _ hm]
    refine wpAny_bind (ha'.ev A env envs ρ hs ha σ ow s _ Ea _ E w ok (fun v av σ' ow' s' z st g r => ?_) kx)
    exact h.tr hs ha _ _ σ' ow' s' _ Ea _ E r z (ok.stp st g) (kv.stp st) (kx.stp st g)
theorem Both.attr (X : CxOk C T P) {e : WE} {c f : Nat} {v : Expr} {n : Str} {pos : Pos} (he : Both C d sc nms q e v) (hb : plainBase v = true) (hn : T.atN[f]? = some n) (hm : ∀ ci, P.cls[c]? = some ci → ci.meths.lookup f = Option.none) :
    Both C d sc nms q (vO1 (oAttr c f) e) (.Attribute v n pos) :=
  .of rfl fun A env envs ρ hs ha σ ow s Qa Ea Q E w ok kv kx => by
    refine Attribute_any_ (he.ev A env envs ρ hs ha σ ow s _ Ea _ E w ok (fun v av σ' ow' s' z st g r => attr_snd X hn hm g (kv.stp st) r z) kx) ?_
    rw [arm_eval_Attribute, base_plain hb]
theorem HOk.call {A : Around} {f : Nat} {Z : Nat → Prop} {h : Heap} (x : HOk A q Z h) (hq : (!q || qOf P f) = true) : HOk A (qOf P f) Z h := by
  rcases x with x | ⟨e, r⟩
  · exact .inl x
  · subst e
    have : qOf P f = true := hq
    rw [this]
    exact .inr ⟨rfl, r⟩
theorem HOk.none {A : Around} {Z : Nat → Prop} {h : Heap} (x : HOk A false Z h) : A.handled = Option.none := x.elim id fun y => absurd y.1 Bool.false_ne_true
theorem BothL.callF (X : CxOk C T P) (hF : SndF C P d F) {A : Around} {env : Env} {envs : Vo} {ρ : Loc} {f : Nat} {es : WL} {xs : List Expr} {pos : Pos} (h : BothL C d sc nms q es xs) (hs : env.scope = sc) (ha : AOk A envs d) (hlt : f < T.fnN.length) (hq : (!q || qOf P f) = true)
    {σ : St} {ow : Nat → Option Nat} {s : Shared} {Qa : PQ} {Ea : PE} {Q : Value → Shared → Prop} {E : Value → Shared → Prop} {a0 : List AV} {v0 : List Value} (r0 : VRs C (Zs σ ow (zss envs)) s.heap a0 v0)
    (w : es ρ σ (fun vs σ' => F f (a0 ++ vs) σ' Qa Ea) Ea) (ok : Ok C A q env envs nms ρ σ ow s) (kv : KV C envs σ ow s (RV C) Qa Q) (kx : KX C envs σ ow s Ea E) :
    wpAny (model C.prog C.w) A (callWith pos (.ref (C.fnA f)) v0 (backTo pos (starEach xs env)) []) Q E s := by
  obtain ⟨oI, fd, f1, f2, f3⟩ := X.fnF f hlt
  refine callWith_function (o := oI) (fd := fd) (evalArgs_any h.stars (h.snd hs ha σ ow s _ Ea _ E w ok (fun vs avs σ' ow' s' z st g r => ?_) kx))
  exact ⟨⟨g.stays _ _ f1, f3⟩, call_snd hF z g ha.toF ((ok.hnd.stp st).call hq) (VRs.append r.1 (st.vrs r0)) (kv.stp st) (kx.stp st g)⟩
theorem Both.call (X : CxOk C T P) (hF : SndF C P d F) {f : Nat} {n : Str} {es : WL} {xs : List Expr} {np pos : Pos} (h : BothL C d sc nms q es xs) (h1 : T.fnN[f]? = some n) (h2 : n ≠ Str.empty) (h3 : gl sc n = true) (hq : (!q || qOf P f) = true) :
    Both C d sc nms q (vCall F f es) (.Call (.Name n np) xs [] pos) :=
  .of rfl fun A env envs ρ hs ha σ ow s Qa Ea Q E w ok kv kx => by
    obtain ⟨g1, g2, g3⟩ := gl_of h3
    refine wpAny_Call_ofName (gname X (by unfold Env.kindOf; rw [hs]; exact g1) g2 ok (X.fnN f n h1 h2) ?_)
    exact h.callF X hF hs ha (List.getElem?_eq_some_iff.mp h1).1 hq (a0 := []) (v0 := []) .nil w ok kv kx
theorem callWith_cls {M : Model} {A : Around} {E : Value → Shared → Prop} {s : Shared} {pos : Pos} {cc : Addr} {args : List (Bool × Sem Value)} {Q : Value → Shared → Prop} (hplain : args.any (·.1) = false)
    (h : wpAny M A (evalArgs (.ref cc) true args []) (fun x s₁ => (∃ nm q N bs bm hdct sn sub ab col dd k0 k1 k2 k3 k5 newId, s₁.heap.get? cc = some (excClassObj nm q cc N bs bm hdct sn sub ab col dd k0 k1 k2 k3 k5 newId)) ∧ wpAny M A (call (.ref cc) x.pos x.kw) Q E s₁) E s) :
    wpAny M A (callWith pos (.ref cc) [] args []) Q E s := by
  unfold callWith
  refine wpAny_bind (wpAny_holding (wpAny_mono h (fun a s₁ h₁ => wpAny_bind (wpAny_standAt ?_)) fun _ _ x => x))
  obtain ⟨⟨nm, q, N, bs, bm, hdct, sn, sub, ab, col, dd, k0, k1, k2, k3, k5, newId, hC⟩, h₁⟩ := h₁
  obtain ⟨hh, gg, dd', tt, oo⟩ := s₁
  simp only [hplain, List.any_nil, Bool.or_false]
  refine wpAny_bind (wpAny_keeperOf_exc hC ?_)
  exact wpAny_bind (wpAny_mono h₁ (fun r s₂ hr => wpAny_bind (wpAny_holding (wpAny_point (wpAny_pure hr)))) fun _ _ x => x)
theorem Both.new (X : CxOk C T P) (hF : SndF C P d F) {c f : Nat} {ci : ClsI} {n : Str} {es : WL} {xs : List Expr} {np pos : Pos} (h : BothL C d sc nms false es xs) (h1 : T.clsN[c]? = some n) (h3 : gl sc n = true) (hc : P.cls[c]? = some ci) (hi : ci.init = some f) (hlt : f < T.fnN.length) :
    Both C d sc nms false (vNew F c f es) (.Call (.Name n np) xs [] pos) :=
  .of rfl fun A env envs ρ hs ha σ ow s Qa Ea Q E w ok kv kx => by
    obtain ⟨g1, g2, g3⟩ := gl_of h3
    refine wpAny_Call_ofName (gname X (by unfold Env.kindOf; rw [hs]; exact g1) g2 ok (X.clsN c n h1) ?_)
    refine callWith_cls (starEach_any h.stars) (evalArgs_any h.stars (h.snd hs ha σ ow s _ Ea _ E w ok (fun vs avs σ' ow' s' z st g r => ?_) kx))
    have hci := X.ics c ci hc (by rw [hi]; exact Option.some_ne_none _)
    obtain ⟨ci', q1, q2⟩ := X.cls c hci
    obtain ⟨nm, q, N, bs, sn, sub, col, dd, k0, k1, k2, k3, k5, mN, c1, _⟩ := q2.ex
    exact ⟨⟨_, _, _, _, _, _, _, _, _, _, _, _, _, _, _, _, _, g.stays _ _ c1⟩, new_snd X hF hc hi hlt z g ha (.inl (ok.hnd.none)) r.1 (kv.stp st) (kx.stp st g)⟩
theorem lookF_none_key {fs : List (Nat × AV)} {m : Nat} (h : lookF fs m = Option.none) : m ∉ fs.map (·.1) := by
  intro hm
  obtain ⟨p, hp, e⟩ := List.mem_map.mp hm
  unfold lookF at h
  rw [Option.map_eq_none_iff, List.find?_eq_none] at h
  exact h p hp (decide_eq_true e)
theorem Both.meth (X : CxOk C T P) (hF : SndF C P d F) {e : WE} {c m f : Nat} {ci : ClsI} {n : Str} {o : Expr} {es : WL} {xs : List Expr} {apos pos : Pos} (he : Both C d sc nms false e o) (h : BothL C d sc nms false es xs) (hb : plainBase o = true) (hn : T.atN[m]? = some n)
    (hline : (apos.endLine == pos.line) = true) (hlen : xs.length < 20) (hc : P.cls[c]? = some ci) (hf : ci.meths.lookup m = some f) (hlt : f < T.fnN.length) :
    Both C d sc nms false (vMeth F c m f e es) (.Call (.Attribute o n apos) xs [] pos) :=
  .of rfl fun A env envs ρ hs ha σ ow s Qa Ea Q E w ok kv kx => by
    rw [arm_eval_Call, base_plain hb]
    refine wpAny_bind (he.ev A env envs ρ hs ha σ ow s _ Ea _ E w ok (fun v av σ' ow' s' z st g r => ?_) kx)
    refine wpAny_bind (wpAny_standAt ?_)
    obtain ⟨a, fs, rfl, hσ, hnone, z⟩ := z
    cases r
    obtain ⟨dx, mA, I, _, fm, _, hcs⟩ := ORep.inst g hσ
    obtain ⟨ci', q1, q2⟩ := X.cls c hcs
    rw [hc] at q1
    cases q1
    obtain ⟨nm, q, N, bs, sn, sub, col, dd, k0, k1, k2, k3, k5, mN, c1, c2, c3, c4, c5, c6, c7, c8⟩ := q2.ex
    obtain ⟨en, lt⟩ := X.nm_lt hn
    obtain ⟨oI, fd, f1, f2, f3⟩ := X.fnF f hlt
    have hform : methodCallForm (xs.length + ([] : List Keyword).length) (backTo pos (starEach xs env)) (backToKw pos (keywordEach [] env)) = true := by
      unfold methodCallForm
      rw [starEach_all h.stars]
      have e1 : backToKw pos (keywordEach [] env) = [] := rfl
      rw [e1]
      simp
      omega
    have hpos : methodCallPos true o env apos pos = pure pos := by unfold methodCallPos; simp [hline]
    have nsh : mA n = Option.none := by
      cases z' : mA n with
      | none => rfl
      | some u =>
        have hmem := fm.2 n (by rw [z']; exact Option.some_ne_none _)
        obtain ⟨p, hp, ep⟩ := List.mem_map.mp hmem
        have hf' : p.1 < T.atN.length := by
          apply Decidable.byContradiction
          intro hn'
          rw [X.nm, List.getD_eq_getElem?_getD, List.getElem?_eq_none (by omega)] at ep
          exact X.ne (by rw [show Str.empty = n from ep]; exact X.mem hn)
        have : p.1 = m := by
          rw [← en, X.nm, X.nm, List.getD_eq_getElem?_getD, List.getD_eq_getElem?_getD, List.getElem?_eq_getElem hf', List.getElem?_eq_getElem lt] at ep
          exact (List.getElem_inj X.inj).mp ep
        exact absurd (List.mem_map.mpr ⟨p, hp, this⟩) (lookF_none_key hnone)
    unfold methodCall
    rw [hform]
    obtain ⟨hh, gg, dd', tt, oo⟩ := s'
    refine wpAny_bind (wpAny_holding (method_of (g.stays _ _ c1) (c2.keeps g.stays) c3 c4 (by rw [← en]; exact c7 m f hf) (g.stays _ _ f1) f2 (X.objN n (X.mem hn)) I nsh ?_))
    refine wpAny_bind (wpAny_of_eq hpos ?_)
    exact h.callF X hF hs ha hlt rfl (a0 := [.obj _]) (v0 := [.ref _]) (.cons (.obj _) .nil) z (ok.stp st g) (kv.stp st) (kx.stp st g)
structure BiOk (C : Cx) (q : Bool) (n : Str) (f : ON) : Prop where
  ex : ∃ fv, bootBuiltins n = some fv ∧ ((∃ id, fv = .builtin id) ∨ ∃ T, fv = .type T) ∧ BiSnd C q fv f
theorem Both.bi (X : CxOk C T P) {q' : Bool} {f : ON} {n : Str} {es : WL} {xs : List Expr} {np pos : Pos} (hb : BiOk C q' n f) (h : BothL C d sc nms q es xs) (hn : n ∈ T.bltN) (h3 : gl sc n = true) (hq : q' = false → q = false) :
    Both C d sc nms q (vON f es) (.Call (.Name n np) xs [] pos) :=
  .of rfl fun A env envs ρ hs ha σ ow s Qa Ea Q E w ok kv kx => by
    obtain ⟨fv, hboot, hk, hS⟩ := hb.ex
    obtain ⟨g1, g2, g3⟩ := gl_of h3
    refine wpAny_Call_ofName (bname X (by unfold Env.kindOf; rw [hs]; exact g1) g2 ok hn g3 hboot ?_)
    have fin : wpAny (model C.prog C.w) A (evalArgs fv true (backTo pos (starEach xs env)) []) (fun x s₁ => wpAny (model C.prog C.w) A (PySem.call fv ([] ++ x.pos) x.kw) Q E s₁) E s := by
      refine evalArgs_any h.stars (h.snd hs ha σ ow s _ Ea _ E w ok (fun vs avs σ' ow' s' z st g r => ?_) kx)
      refine hS A envs σ' ow' s' _ _ _ _ _ (fun e => ?_) g (kv.stp st) r.1 z
      have := hq e
      subst this
      exact ok.hnd.none
    rcases hk with ⟨id, rfl⟩ | ⟨T, rfl⟩
    · exact callWith_builtin (starEach_any h.stars) fin
    · exact PyProof.Rows.callWith_type (starEach_any h.stars) fin
theorem Both.isiG (X : CxOk C T P) {o : O1} {e : WE} {y : Expr} {n z : Str} {np zp pos : Pos} {tv : Value} (he : Both C d sc nms q e y) (hst : notStar y = true) (hn : n = ("isinstance" : Str)) (hb : n ∈ T.bltN) (h3 : gl sc n = true)
    (hz : ∀ A env envs ρ σ ow s (Q : Value → Shared → Prop) E, env.scope = sc → Ok C A q env envs nms ρ σ ow s → Q tv s → wpAny (model C.prog C.w) A (eval (.Name z zp) env) Q E s)
    (hi : ∀ (A : Around) envs σ ow s (Qa : PQ) (Q : Value → Shared → Prop) E v u, Good C envs σ ow s → KV C envs σ ow s (RV C) Qa Q → VR C (Zs σ ow (zss envs)) s.heap v u → o v σ Qa → wpAny (model C.prog C.w) A (PySem.call (.builtin "isinstance") [u, tv]) Q E s) :
    Both C d sc nms q (vO1 o e) (.Call (.Name n np) [y, .Name z zp] [] pos) :=
  .of rfl fun A env envs ρ hs ha σ ow s Qa Ea Q E w ok kv kx => by
    obtain ⟨g1, g2, g3⟩ := gl_of h3
    refine wpAny_Call_ofName (bname X (by unfold Env.kindOf; rw [hs]; exact g1) g2 ok hb g3 (by rw [hn]; exact boot_isinstance) ?_)
    have hst' : [y, Expr.Name z zp].all notStar = true := by rw [List.all_cons, hst]; rfl
    refine callWith_builtin (starEach_any hst') (evalArgs_any hst' ?_)
    rw [starEach_cons hst]
    refine spliced_cons (he.ev A env envs ρ hs ha σ ow s _ Ea _ E w ok (fun v av σ' ow' s' w' st g r => ?_) kx)
    rw [starEach_cons (show notStar (Expr.Name z zp) = true from rfl)]
    refine spliced_cons (hz A env envs ρ σ' ow' s' _ _ hs (ok.stp st g) (spliced_nil ?_))
    exact hi A envs σ' ow' s' _ _ _ _ _ g (kv.stp st) r w'
theorem Both.isi (X : CxOk C T P) {t : Ty} {e : WE} {y : Expr} {n z : Str} {np zp pos : Pos} (he : Both C d sc nms q e y) (hst : notStar y = true) (hn : n = ("isinstance" : Str)) (hb : n ∈ T.bltN) (h3 : gl sc n = true) (hz : bootBuiltins z = some (tyV t)) (hb' : z ∈ T.bltN) (h3' : gl sc z = true) :
    Both C d sc nms q (vO1 (oIsi t) e) (.Call (.Name n np) [y, .Name z zp] [] pos) :=
  .isiG X he hst hn hb h3 (fun A env envs ρ σ ow s Q E hs ok hq => by
    obtain ⟨g1, g2, g3⟩ := gl_of h3'
    exact bname X (by unfold Env.kindOf; rw [hs]; exact g1) g2 ok hb' g3 hz hq) fun A envs σ ow s Qa Q E v u g k r w => isi_snd r w fun tk z => k.val g tk z (.bool _)
theorem Both.isiV (X : CxOk C T P) {e : WE} {y : Expr} {n z : Str} {np zp pos : Pos} (he : Both C d sc nms q e y) (hst : notStar y = true) (hn : n = ("isinstance" : Str)) (hb : n ∈ T.bltN) (h3 : gl sc n = true) (hz : bootBuiltins z = some (.type "ValueError")) (hb' : z ∈ T.bltN) (h3' : gl sc z = true) :
    Both C d sc nms q (vO1 oIsiV e) (.Call (.Name n np) [y, .Name z zp] [] pos) :=
  .isiG X he hst hn hb h3 (fun A env envs ρ σ ow s Q E hs ok hq => by
    obtain ⟨g1, g2, g3⟩ := gl_of h3'
    exact bname X (by unfold Env.kindOf; rw [hs]; exact g1) g2 ok hb' g3 hz hq) fun A envs σ ow s Qa Q E v u g k r w => by
    obtain ⟨c, rfl, w⟩ := w
    cases r with | exn at_ cls dt dn cx off =>
    exact X.isiV _ cx A Q E s _ _ _ g.stays at_ cls dt dn fun tk => k.val g tk w (.bool _)
theorem Both.isiX (X : CxOk C T P) {dd : Nat} {e : WE} {y : Expr} {n z : Str} {np zp pos : Pos} (he : Both C d sc nms q e y) (hst : notStar y = true) (hn : n = ("isinstance" : Str)) (hb : n ∈ T.bltN) (h3 : gl sc n = true) (hz : T.clsN[dd]? = some z) (h3' : gl sc z = true) {cj : ClsI} (hc : P.cls[dd]? = some cj) (hi : cj.init = Option.none) :
    Both C d sc nms q (vO1 (oIsiX P.cls dd) e) (.Call (.Name n np) [y, .Name z zp] [] pos) :=
  .isiG X he hst hn hb h3 (fun A env envs ρ σ ow s Q E hs ok hq => by
    obtain ⟨g1, g2, g3⟩ := gl_of h3'
    exact gname X (by unfold Env.kindOf; rw [hs]; exact g1) g2 ok (X.clsN _ z hz) hq) fun A envs σ ow s Qa Q E v u g k r w => by
    obtain ⟨c, ci, rfl, hci, w⟩ := w
    cases r with | exn at_ cls dt dn cx off =>
    exact X.isiC _ cx _ (X.xcs dd cj hc hi) _ hci A Q E s _ _ _ g.stays at_ cls dt dn fun tk => k.val g tk w (.bool _)
end
end Ap
end
section
set_option Elab.async false
set_option linter.unusedVariables false
set_option linter.unusedSimpArgs false
namespace Ap
open PySem PySem.Calls PyProof.Rows
structure BothS (C : Cx) (d : Nat) (sc : Scope) (nms : List Str) (q : Bool) (w : WS) (x : Stmt) : Prop where
  snd : ∀ A env V outer, FEnv env nms V outer → env.scope = sc → AOk A V d → SndS C A q env V nms (exec x env) w
structure BothB (C : Cx) (d : Nat) (sc : Scope) (nms : List Str) (q : Bool) (w : WS) (x : List Stmt) : Prop where
  snd : ∀ A env V outer, FEnv env nms V outer → env.scope = sc → AOk A V d → SndS C A q env V nms (execs x env) w
def noComp : Expr → Bool
  | .ListComp .. => false
  | .SetComp .. => false
  | .DictComp .. => false
  | _ => true
theorem swaps_no {e : Expr} {t : Option Expr} {line : Nat} {env : Env} (h : noComp e = true) : swapsWith e t line env = pure false := by
  cases e <;> first | rfl | exact Bool.noConfusion h
section
variable {C : Cx} {T : Tabs} {P : Prg} {F : Calls} {d : Nat} {sc : Scope} {nms : List Str} {q : Bool}
theorem BothB.nil : BothB C d sc nms q bNil [] where
  snd := fun A env V outer hF hs ha ρ σ ow s Qa Ea Q E w k ks kx => wpAny_execs_nil (ks _ _ ρ σ ow s w (SStp.refl _ _ _ _) k .next)
theorem BothB.cons {i is : WS} {x : Stmt} {xs : List Stmt} (h : BothS C d sc nms q i x) (hr : BothB C d sc nms q is xs) : BothB C d sc nms q (bCons i is) (x :: xs) where
  snd := fun A env V outer hF hs ha ρ σ ow s Qa Ea Q E w k ks kx => by
    refine wpAny_execs_cons (h.snd A env V outer hF hs ha ρ σ ow s _ Ea _ E w k (fun fl af ρ' σ' ow' s' z st k' r => ?_) kx)
    cases r with
    | next => exact hr.snd A env V outer hF hs ha ρ' σ' ow' s' _ Ea _ E z k' (ks.stp st) (kx.stp st k'.ok.good)
    | ret r => exact ks _ _ ρ' σ' ow' s' z st k' (.ret r)
theorem BothS.assign {x : Nat} {n : Str} {e : WE} {v : Expr} {np pos : Pos} (he : Both C d sc nms q e v) (hc : noComp v = true) (hn : nms[x]? = some n) : BothS C d sc nms q (sAssign x e) (.Assign [.Name n np] v pos) where
  snd := fun A env V outer hF hs ha ρ σ ow s Qa Ea Q E w k ks kx => by
    refine wpAny_Assign_Name (he.ev A env V ρ hs ha σ ow s _ _ _ E w k.ok (fun u av σ' ow' s' z st g r => ?_) (kx.toE hF k)) (swaps_no hc)
    refine store_snd hF hn (k.stp hF st g) r fun s'' st' k' => ?_
    exact ks _ _ _ σ' ow' s'' z (st.toS.trans st') k' .next
theorem BothS.setAttr (X : CxOk C T P) {o e : WE} {c f : Nat} {ov v : Expr} {n : Str} {np pos : Pos} (ho : Both C d sc nms q o ov) (he : Both C d sc nms q e v) (hc : noComp v = true) (hn : T.atN[f]? = some n) (hm : P.cls.all (fun ci => (ci.meths.lookup f).isNone) = true) :
    BothS C d sc nms q (sSetAttr o c f e) (.Assign [.Attribute ov n np] v pos) where
  snd := fun A env V outer hF hs ha ρ σ ow s Qa Ea Q E w k ks kx => by
    refine plainObj_wpAny_Assign_Attribute (he.ev A env V ρ hs ha σ ow s _ _ _ E w k.ok (fun u av σ' ow' s' z st g r => ?_) (kx.toE hF k)) (swaps_no hc)
    have k' := k.stp hF st g
    refine ho.ev A env V ρ hs ha σ' ow' s' _ _ _ E z k'.ok (fun u2 av2 σ₂ ow₂ s₂ z₂ st₂ g₂ r₂ => ?_) ((kx.stp st.toS g).toE hF k')
    obtain ⟨a, fs, rfl, hσ, hl, z₂⟩ := z₂
    cases r₂
    refine setA_snd X hn hm g₂ hσ hl (st₂.vr r) fun s₃ st₃ g₃ => ?_
    exact ks _ _ ρ _ ow₂ s₃ z₂ ((st.trans st₂).trans st₃).toS ((k'.stp hF st₂ g₂).stp hF st₃ g₃) .next
theorem BothS.ret {e : WE} {v : Expr} {pos : Pos} (he : Both C d sc nms q e v) : BothS C d sc nms q (sRet e) (.Return (some v) pos) where
  snd := fun A env V outer hF hs ha ρ σ ow s Qa Ea Q E w k ks kx => by
    refine wpAny_Return_some (he.ev A env V ρ hs ha σ ow s _ _ _ E w k.ok (fun u av σ' ow' s' z st g r => ?_) (kx.toE hF k))
    exact ks _ _ ρ σ' ow' s' z st.toS (k.stp hF st g) (.ret r)
theorem BothS.ite {c : WE} {a b : WS} {y : Expr} {xs ys : List Stmt} {pos : Pos} (hc : Both C d sc nms q c y) (h1 : BothB C d sc nms q a xs) (h2 : BothB C d sc nms q b ys) : BothS C d sc nms q (sIte c a b) (.If y xs ys pos) where
  snd := fun A env V outer hF hs ha ρ σ ow s Qa Ea Q E w k ks kx => by
    refine wpAny_If (hc.tr A env V ρ hs ha σ ow s _ _ _ E w k.ok (fun v t σ' ow' s' z st g r => ?_) (kx.toE hF k))
    have r' : t = v := r
    subst r'
    have k' := k.stp hF st g
    cases t with
    | true => exact h1.snd A env V outer hF hs ha ρ σ' ow' s' _ Ea _ E z k' (ks.stp st.toS) (kx.stp st.toS g)
    | false => exact h2.snd A env V outer hF hs ha ρ σ' ow' s' _ Ea _ E z k' (ks.stp st.toS) (kx.stp st.toS g)
theorem Expr_any {M : Program} {w : World} {A : Around} {E : Value → Shared → Prop} {s : Shared} {env : Env} {e : Expr} {pos : Pos} {Q : Flow → Shared → Prop} (hi : interactive env = false) (hc : noComp e = true) (h : wpAny (model M w) A (eval e env) (fun _ s' => Q .next s') E s) :
    wpAny (model M w) A (exec (.Expr e pos) env) Q E s := by
  rw [arm_exec_Expr]
  refine wpAny_bind (wpAny_standAt ?_)
  rw [hi]
  rw [if_neg (by decide), swaps_no hc]
  refine wpAny_bind (wpAny_pure ?_)
  rw [if_neg (by decide)]
  refine wpAny_bind (wpAny_mono h (fun v s' hq => ?_) fun _ _ x => x)
  unfold dropValue
  split
  · exact wpAny_pure hq
  · exact wpAny_bind (wpAny_standAt (wpAny_bind (wpAny_runValue (codeAny_builtin entry_let_go (show wpAny _ _ (ret .none) _ _ _ from wpAny_pure (wpAny_pure hq))))))
  · exact wpAny_pure hq
theorem BothS.expr {e : WE} {v : Expr} {pos : Pos} (he : Both C d sc nms q e v) (hc : noComp v = true) : BothS C d sc nms q (sExpr e) (.Expr v pos) where
  snd := fun A env V outer hF hs ha ρ σ ow s Qa Ea Q E w k ks kx => by
    refine Expr_any (by unfold interactive; rw [hF.kind]; rfl) hc (he.ev A env V ρ hs ha σ ow s _ _ _ E w k.ok (fun u av σ' ow' s' z st g r => ?_) (kx.toE hF k))
    exact ks _ _ ρ σ' ow' s' z st.toS (k.stp hF st g) .next
theorem BothS.rais (X : CxOk C T P) {c : Nat} {n : Str} {m : Str} {kk : Nat} {np cp mp pos : Pos} (hn : T.clsN[c]? = some n) (hg : gl sc n = true) (hx : c ∈ C.xcs) : BothS C d sc nms false (sRais c) (.Raise (some (.Call (.Name n np) [.Constant (.str m) kk mp] [] cp)) Option.none pos) where
  snd := fun A env V outer hF hs ha ρ σ ow s Qa Ea Q E w k ks kx => by
    obtain ⟨nm, q, N, bs, bm, bmB, hdct, sn, sub, ab, col, dd, k0, k1, k2, k3, k5, B, newId, initId, mN, c1, c2, c3, c4, c5, c6⟩ := (X.exc c hx).ex
    obtain ⟨g1, g2, g3⟩ := gl_of hg
    refine wpAny_Raise_call_subT (nm := nm) (q := q) (N := N) (bs := bs) (hdct := hdct) (sn := sn) (sub := sub) (ab := ab) (col := col) (dd := dd) (k0 := k0) (k1 := k1) (k2 := k2) (k3 := k3) (k5 := k5) c5 c6 k.ok.hnd.none rfl c3 (gname X (by unfold Env.kindOf; rw [hs]; exact g1) g2 k.ok (X.clsN c n hn) ⟨rfl, ?_⟩)
    refine evalArgs_any rfl ?_
    rw [starEach_cons rfl]
    refine spliced_cons (wpAny_Constant_str (k := kk) (pos := mp) (spliced_nil ?_))
    have G := k.ok.good.tk (s.toks + 1)
    refine ⟨rfl, by show 1 ≤ sizeLine; decide, G.stays _ _ c1, c2.keeps G.stays, ?_, fun h' e hm => ?_⟩
    · exact c4.keeps G.stays
    · obtain ⟨t, ht, hn1, hn2⟩ := hm.there
      have gr : ∀ b o, s.heap.get? b = some o → h'.get? b = some o := hm.keeps
      have st : Stp (frs V) (Own σ ow) (Own σ ow) s { s with heap := h', toks := s.toks + 1 } := Stp.ext gr _
      have g' : Good C V σ ow { s with heap := h', toks := s.toks + 1 } := k.ok.good.ext gr _
      have nz : ¬ Zs σ ow (zss V) e := by
        rintro (z | z)
        · obtain ⟨o, y⟩ := k.ok.good.live z
          have hnew : s.heap.get? e = Option.none := hm.new
          rw [hnew] at y; cases y
        · obtain ⟨_, o, y⟩ := k.ok.good.mem _ z
          have hnew : s.heap.get? e = Option.none := hm.new
          rw [hnew] at y; cases y
      exact kx e c ρ σ ow _ w st.toS (k.stp hF st g') ⟨⟨hm.new, nz, hx⟩, Option.none, ⟨_, _, _, ht, rfl, rfl, rfl, rfl, rfl, rfl⟩, fun T fl z => by cases z⟩
def notSet : Expr → Bool
  | .Set .. => false
  | _ => true
theorem folded_not {e : Expr} {env : Env} {x : Value} (h : notSet e = true) : foldedSetIterable e env x = pure x := by
  cases e <;> first | rfl | exact Bool.noConfusion h
theorem iter_list {prog : Program} {w : World} {A : Around} {E : Value → Shared → Prop} {s : Shared} {l : Addr} {vs : List Value} {Q : Value → Shared → Prop} (li : IsL s.heap l vs)
    (h : ∀ h', (∀ b o, s.heap.get? b = some o → h'.get? b = some o) → h'.IsListIter s.heap.objs.size l 0 → Q (.ref s.heap.objs.size) { s with heap := h' }) : wpAny (model prog w) A (pyIter (.ref l)) Q E s :=
  wpAny_pyIter_list li.isList (h _ (fun _ _ e => Heap.get?_push_of_some _ e) ⟨_, Heap.get?_push_size _ rfl, rfl, rfl⟩)
theorem seqOf_isL {a : AV} {v : Value} {xs : List AV} {V : Vo} {σ : St} {ow : Nat → Option Nat} {s : Shared} (g : Good C V σ ow s) (r : VR C (Zs σ ow (zss V)) s.heap a v) (e : seqOf σ a = some xs) :
    ∃ l vs, v = .ref l ∧ IsL s.heap l vs ∧ VRs C (Zs σ ow (zss V)) s.heap xs vs ∧ (a = .ilist xs ∧ (¬ Zs σ ow (zss V) l) ∨ a = .obj l ∧ σ l = some (.list xs)) := by
  cases r with
  | ilist at_ off r => cases e; exact ⟨_, _, rfl, at_, r, .inl ⟨rfl, off⟩⟩
  | obj a =>
    obtain ⟨vs, li, rr⟩ := g.store _ _ (seqOf_obj e)
    exact ⟨_, vs, rfl, li, rr, .inr ⟨rfl, seqOf_obj e⟩⟩
  | _ => cases e
theorem Heap.fresh (h : Heap) : h.get? h.objs.size = Option.none := by
  cases e : h.get? h.objs.size with
  | none => rfl
  | some o => exact absurd (Heap.lt_size e) (Nat.lt_irrefl _)
theorem BothS.forL {e : WE} {v : Expr} {x : Nat} {n : Str} {body : WS} {xs : List Stmt} {np pos : Pos} (he : Both C d sc nms q e v) (hB : BothB C d sc nms q body xs) (hv : notSet v = true) (hn : nms[x]? = some n) :
    BothS C d sc nms q (sFor x e body) (.For (.Name n np) v xs [] pos) where
  snd := fun A env V outer hF hs ha ρ σ ow s Qa Ea Q E w k ks kx => by
    refine wpAny_For (he.ev A env V ρ hs ha σ ow s _ _ _ E w k.ok (fun u av σ' ow' s' z st g r => ?_) (kx.toE hF k)) fun x => folded_not hv
    have k' := k.stp hF st g
    have hA : A.frames = some V.l := ha.frames
    obtain ⟨items, hseq, z⟩ := z
    obtain ⟨l, vs, rfl, li, rr, hc⟩ := seqOf_isL g r hseq
    obtain ⟨hh, gg, dd, tt, oo⟩ := s'
    refine iter_list li fun h' gr it => ?_
    have nI : hh.get? hh.objs.size = Option.none := Heap.fresh _
    have fr : ∀ b ∈ [hh.objs.size], hh.get? b = Option.none ∧ ∃ o, h'.get? b = some o := fun b m => by
      rw [List.mem_singleton.mp m]
      obtain ⟨o, e, _⟩ := it
      exact ⟨nI, o, e⟩
    have ko := k'.open_ (h' := h') (t := tt) (wr := [hh.objs.size]) gr fr
    have st' : Stp (frs V) (Own σ' ow') (Own σ' ow') ⟨hh, gg, dd, tt, oo⟩ { heap := h', gens := gg, drawn := dd, toks := tt, os := oo } := Stp.ext gr tt
    have ss : SStp (ownX env) V.fs (Own σ ow) (Own σ' ow') s { heap := h', gens := gg, drawn := dd, toks := tt, os := oo } := (st.trans st').toS
    have fr0 : ∀ b ∈ [hh.objs.size], s.heap.get? b = Option.none := fun b m => st.back rfl g b (fr b m).1
    have nz : ∀ b ∈ [hh.objs.size], b ∉ V.its := fun b m n => by
      obtain ⟨_, o, y⟩ := k.ok.good.mem b (List.mem_append_right _ n)
      rw [fr0 b m] at y; cases y
    rcases hc with ⟨rfl, off⟩ | ⟨rfl, hst⟩
    · have zg : Zg (Zs σ' ow' (zss V)) (Zs σ' ow' (zss (V.plus [hh.objs.size]))) hh := fun b y => by
        rcases y with y | y
        · exact .inl (.inl y)
        · rcases Vo.plus_mem y with y | y
          · exact .inl (.inr y)
          · exact .inr (fr b y).1
      obtain ⟨y1, m, y2⟩ := li
      exact loop_snd hF hA (It.ilist (ax := l) (vs := vs)) (hB.snd A env (V.plus [hh.objs.size]) outer hF.plus hs ha.plus) (.one hF.plus hn) k.ok.good.stays fr0 nz ks kx ⟨it, ⟨y1, m, gr _ _ y2⟩, rr.kp (fun b o e _ => gr b o e) zg, zg.not y2 off⟩ ko ss (fun v ρ σ R h => ⟨_, rfl, h⟩) z
    · exact loop_snd hF hA It.own (hB.snd A env (V.plus [hh.objs.size]) outer hF.plus hs ha.plus) (.one hF.plus hn) k.ok.good.stays fr0 nz ks kx it ko ss (fun v ρ σ R h => ⟨_, rfl, h⟩) z
end
end Ap
end
section
set_option Elab.async false
set_option linter.unusedVariables false
set_option linter.unusedSimpArgs false
namespace Ap
open PySem PySem.Calls PyProof.Rows
section
variable {C : Cx} {T : Tabs} {P : Prg} {F : Calls} {d : Nat} {sc : Scope} {nms : List Str} {q : Bool}
inductive BothH (C : Cx) (T : Tabs) (P : Prg) (d : Nat) (sc : Scope) (nms : List Str) : WH → List ExceptHandler → Prop
  | nil : BothH C T P d sc nms hNil []
  | cons {dd x : Nat} {b : WS} {n y : Str} {np pos : Pos} {b₀ : Stmt} {bs : List Stmt} {r : WH} {rest : List ExceptHandler} {cj : ClsI} : T.clsN[dd]? = some n → gl sc n = true → P.cls[dd]? = some cj → cj.init = Option.none → nms[x]? = some y → sc.names.lookup y = some .local →
      BothB C d sc nms true b (b₀ :: bs) → BothH C T P d sc nms r rest → BothH C T P d sc nms (hCons P.cls dd x b r) (.ExceptHandler (some (.Name n np)) (some y) (b₀ :: bs) pos :: rest)
variable {A : Around} {env : Env} {V : Vo} {outer : List Env} {ρ : Loc} {σ : St} {ow : Nat → Option Nat} {s : Shared}
theorem SOk.mark {e : Addr} {c : Nat} {t : Option (Addr × Value)} (k : SOk C A q env V nms ρ σ ow s) (x : ExO s.heap e (.ref (C.clsA c)) t) (n : ¬ Zs σ ow (zss V) e) : SOk C (A.mark (some (.ref e))) true env V nms ρ σ ow s := by
  obtain ⟨oe, vs, a0, x1, x2, x3, x4, x5, x6, x7⟩ := x
  exact ⟨⟨k.ok.good, k.ok.loc, .inr ⟨rfl, e, oe, vs, rfl, x1, x4, x6, n⟩, k.ok.live⟩, k.ns, k.cells⟩
theorem SOk.unmark {e : Addr} {q' : Bool} (hh : A.handled = Option.none) (k : SOk C (A.mark (some (.ref e))) q' env V nms ρ σ ow s) : SOk C A false env V nms ρ σ ow s :=
  ⟨⟨k.ok.good, k.ok.loc, .inl hh, k.ok.live⟩, k.ns, k.cells⟩
theorem goes_snd (hF : FEnv env nms V outer) {n : Str} {pos : Pos} {Q : Unit → Shared → Prop} {E : Value → Shared → Prop} (hl : env.kindOf n = some .local) (k : SOk C A q env V nms ρ σ ow s)
    (K : ∀ s', SStp (ownX env) V.fs (Own σ ow) (Own σ ow) s s' → SOk C A q env V nms [] σ ow s' → Q () s') : wpAny (model C.prog C.w) A (do bindName env n .none; unbindBehindTheSuite env n pos) Q E s := by
  obtain ⟨m, hn⟩ := k.ns
  refine wpAny_nameGoes hl hn (by rw [hF.kind]; rfl) fun h' m' hn' hs => ?_
  have hk : ∀ b ob, b ≠ env.locals → s.heap.get? b = some ob → h'.get? b = some ob := fun b ob nb e => (hs.2 b nb).trans e
  have hlv : ∃ o, h'.get? env.locals = some o ∧ ∀ vs, o.data ≠ .fields vs := by
    obtain ⟨o, es, ep, ho, hd, _⟩ := hn'
    exact ⟨o, ho, fun vs q => by rw [hd] at q; cases q⟩
  have st : SStp (ownX env) V.fs (Own σ ow) (Own σ ow) s { s with heap := h', toks := s.toks + 1 } := SStp.touch _ List.mem_cons_self hF.inF hk (let ⟨o, e, _⟩ := hlv; ⟨o, e⟩)
  refine K _ st ⟨⟨k.ok.good.touch hF.inF hk hlv _, ⟨k.ok.loc.kind, k.ok.loc.glob, k.ok.loc.blt, k.ok.loc.offL, fun j w e => by simp [getL] at e⟩, k.ok.hnd.sstp st, let ⟨o, e, _⟩ := hlv; ⟨o, e⟩⟩, ⟨_, hn'⟩, fun y c hc => ?_⟩
  obtain ⟨v', o, eo, d⟩ := k.cells y c hc
  exact ⟨v', o, hk _ _ (hF.cel y c hc).2 eo, d⟩
theorem handle_snd (X : CxOk C T P) (hF : FEnv env nms V outer) (hs : env.scope = sc) (ha : AOk A V d) (hh : A.handled = Option.none) {σ₀ : St} {ow₀ : Nat → Option Nat} {s₀ : Shared} {Qa : QS} {Ea : ES} {Q : Flow → Shared → Prop} {E : Value → Shared → Prop} {e Tb : Addr} {c : Nat}
    (hb : C.base.StaysIn s₀.heap) (ks : KS C A false env V nms σ₀ ow₀ s₀ Qa Q) (kx : KXS C A false env V nms σ₀ ow₀ s₀ Ea E) (hxc : c ∈ C.xcs) {hs' : WH} {xs : List ExceptHandler} (hB : BothH C T P d sc nms hs' xs) :
    ∀ ρ σ ow s, hs' c ρ σ Qa Ea → SOk C A false env V nms ρ σ ow s → SStp (ownX env) V.fs (Own σ₀ ow₀) (Own σ ow) s₀ s →
      ExO s.heap e (.ref (C.clsA c)) (some (Tb, .none)) → s₀.heap.get? e = Option.none ∧ ¬ Zs σ ow (zss V) e → s₀.heap.get? Tb = Option.none → ¬ Zs σ ow (zss V) Tb →
      wpAny (model C.prog C.w) A (handleBy (.ref e) env xs) Q E s := by
  induction hB with
  | nil =>
    intro ρ σ ow s w k st x n nT nZ
    refine wpAny_handleBy_nil ?_
    unfold PySem.passOn
    obtain ⟨oe, vs, a0, x1, x2, x3, x4, x5, x6, x7, x8⟩ := id x
    refine wpAny_bind (wpAny_field x1 x4 x7 ?_)
    rw [if_neg (by simp)]
    refine wpAny_bind (flight_snd hF hb st k n x nT nZ fun s' st' k' x' => ?_)
    rw [hF.frame] at x'
    exact wpAny_throw (kx e c ρ σ ow s' w st' k' ⟨⟨n.1, n.2, hxc⟩, _, x', fun T' fl' z => by cases z; exact ⟨.inr rfl, nT, nZ⟩⟩)
  | @cons dd x b nm y np pos b₀ bs r rest cj h1 h2 h3 h4 h5 h6 h7 _ ih =>
    intro ρ σ ow s w k st xo n nT nZ
    obtain ⟨ci, hci, w⟩ := w
    obtain ⟨g1, g2, g3⟩ := gl_of h2
    have km := k.mark xo n.2
    refine wpAny_handleBy_cons (codeAny_handlers_test (gname X (by unfold Env.kindOf; rw [hs]; exact g1) g2 km.ok (X.clsN dd nm h1) ?_)) (by intro q; cases q)
    obtain ⟨oe, vs, a0, x1, x2, x3, x4, x5, x6, x7, x8⟩ := id xo
    refine X.exm c hxc dd (X.xcs dd cj h3 h4) ci hci _ _ _ s e oe vs k.ok.good.stays x1 x3 x4 x2 ?_
    cases hsup : ci.sups.contains dd with
    | false =>
      rw [hsup] at w
      exact ih ρ σ ow s w k st xo n nT nZ
    | true =>
      rw [hsup] at w
      have ham : AOk (A.mark (some (.ref e))) V d := ha.mark _
      have hl : env.kindOf y = some .local := by unfold Env.kindOf; rw [hs]; exact h6
      refine codeAny_handlers_suite_as (flight_snd hF hb st km n xo nT nZ fun s' st' k' x' => ?_)
      obtain ⟨oe', vs', a0', y1, y2, y3, y4, _⟩ := id x'
      refine store_snd hF (v := .exn c) h5 k' (.exn y1 y3 y4 y2 hxc n.2) fun s₂ st₂ k₂ => ?_
      refine h7.snd _ env V outer hF hs ham _ σ ow s₂ _ _ _ _ w k₂ (fun fl af ρ₃ σ₃ ow₃ s₃ z st₃ k₃ rf => ?_) (fun e c ρ₃ σ₃ ow₃ s₃ z st₃ k₃ th => False.elim z)
      cases rf with
      | next => exact False.elim z
      | ret r =>
        refine goes_snd hF hl (k₃.unmark hh) fun s₄ st₄ k₄ => ?_
        exact ks _ _ [] σ₃ ow₃ s₄ z (((st'.trans st₂).trans st₃).trans st₄) k₄ (.ret (st₄.vr r))
theorem BothS.tryE (X : CxOk C T P) {body : WS} {hs' : WH} {xs : List Stmt} {h₀ : ExceptHandler} {hrest : List ExceptHandler} {pos : Pos} (hB : BothB C d sc nms false body xs) (hH : BothH C T P d sc nms hs' (h₀ :: hrest)) :
    BothS C d sc nms false (sTry body hs') (.Try xs (h₀ :: hrest) [] [] pos) where
  snd := fun A env V outer hF hs ha ρ σ ow s Qa Ea Q E w k ks kx => by
    refine wpAny_Try_except (hB.snd A env V outer hF hs ha ρ σ ow s _ _ _ _ w k (fun fl af ρ₃ σ₃ ow₃ s₃ z st₃ k₃ rf => ?_) (fun e c ρ₃ σ₃ ow₃ s₃ z st₃ k₃ th => ?_))
    · cases rf with
      | next => exact wpAny_execs_nil (ks _ _ ρ₃ σ₃ ow₃ s₃ z st₃ k₃ .next)
      | ret r => exact ks _ _ ρ₃ σ₃ ow₃ s₃ z st₃ k₃ (.ret r)
    · have t0 := th.1
      refine note_snd hF ha.frames k.ok.good.stays st₃ k₃ th fun s' Tb st' k' x nT nZ => ?_
      refine flight_snd hF k.ok.good.stays st' k' ⟨t0.1, t0.2.1⟩ x nT nZ fun s'' st'' k'' x' => ?_
      exact handle_snd X hF hs ha k.ok.hnd.none k.ok.good.stays ks kx t0.2.2 hH ρ₃ σ₃ ow₃ s'' z k'' st'' x' ⟨t0.1, t0.2.1⟩ nT nZ
end
end Ap
end
section
set_option Elab.async false
set_option linter.unusedVariables false
set_option linter.unusedSimpArgs false
namespace Ap
open PySem PySem.Calls PyProof.Rows
def okF (fi : FnI) (ft : FnT) : Bool :=
  decide ft.nms.Nodup && ft.nms.all (fun x => ft.sc.names.lookup x == some .local || ft.sc.names.lookup x == some .cell) && ft.sc.kind == .function && !ft.sc.isGenerator && !ft.sc.isCoroutine &&
    decide (fi.arity ≤ ft.nms.length) && decide (fi.arity ≤ fi.nloc)
theorem cellsFrom_acc (x : Str) : ∀ (names : List (Str × NameKind)) (n : Nat) (acc : List (Str × Addr)), (acc.lookup x).isSome = true → ((cellsFrom n names acc).lookup x).isSome = true := by
  intro names
  induction names with
  | nil => intro n acc h; exact h
  | cons p r ih =>
    obtain ⟨nm, kd⟩ := p
    intro n acc h
    rw [cellsFrom]
    split
    · refine ih _ _ ?_
      rw [List.lookup_cons]
      cases hb : x == nm with
      | true => rfl
      | false => exact h
    · exact ih _ _ h
theorem cellsFrom_has (x : Str) : ∀ (names : List (Str × NameKind)) (n : Nat) (acc : List (Str × Addr)), names.lookup x = some .cell → ((cellsFrom n names acc).lookup x).isSome = true := by
  intro names
  induction names with
  | nil => intro n acc h; cases h
  | cons p r ih =>
    obtain ⟨nm, kd⟩ := p
    intro n acc h
    rw [List.lookup_cons] at h
    rw [cellsFrom]
    cases hb : x == nm with
    | true =>
      rw [hb] at h
      cases h
      rw [if_pos (by decide)]
      exact cellsFrom_acc x r _ _ (by rw [List.lookup_cons, hb]; rfl)
    | false =>
      rw [hb] at h
      split
      · exact ih _ _ h
      · exact ih _ _ h
theorem bindL_other {kd : Str → Option NameKind} {x : Str} : ∀ (binds : List (Str × Value)) (m : Str → Option Value), x ∉ binds.map (·.1) → bindL kd binds m x = m x := by
  intro binds
  induction binds with
  | nil => intro m h; rfl
  | cons p r ih =>
    obtain ⟨n, v⟩ := p
    intro m h
    rw [List.map_cons, List.mem_cons, not_or] at h
    rw [bindL, ih _ h.2]
    split
    · exact if_neg h.1
    · rfl
theorem bindL_get {kd : Str → Option NameKind} {x : Str} {v : Value} : ∀ (binds : List (Str × Value)) (m : Str → Option Value), (binds.map (·.1)).Nodup → (x, v) ∈ binds → kd x = some .local → bindL kd binds m x = some v := by
  intro binds
  induction binds with
  | nil => intro m hd h; cases h
  | cons p r ih =>
    obtain ⟨n, u⟩ := p
    intro m hd h hk
    rw [List.map_cons, List.nodup_cons] at hd
    rw [bindL]
    rcases List.mem_cons.mp h with e | h
    · cases e
      rw [bindL_other r _ hd.1, if_pos hk, if_pos rfl]
    · exact ih _ hd.2 h hk
theorem bindC_other {kd : Str → Option NameKind} {x : Str} : ∀ (binds : List (Str × Value)) (m : Str → Option Value), x ∉ binds.map (·.1) → bindC kd binds m x = m x := by
  intro binds
  induction binds with
  | nil => intro m h; rfl
  | cons p r ih =>
    obtain ⟨n, v⟩ := p
    intro m h
    rw [List.map_cons, List.mem_cons, not_or] at h
    rw [bindC, ih _ h.2]
    split
    · rfl
    · exact if_neg h.1
theorem bindC_get {kd : Str → Option NameKind} {x : Str} {v : Value} : ∀ (binds : List (Str × Value)) (m : Str → Option Value), (binds.map (·.1)).Nodup → (x, v) ∈ binds → ¬ kd x = some .local → bindC kd binds m x = some v := by
  intro binds
  induction binds with
  | nil => intro m hd h; cases h
  | cons p r ih =>
    obtain ⟨n, u⟩ := p
    intro m hd h hk
    rw [List.map_cons, List.nodup_cons] at hd
    rw [bindC]
    rcases List.mem_cons.mp h with e | h
    · cases e
      rw [bindC_other r _ hd.1, if_neg hk, if_pos rfl]
    · exact ih _ hd.2 h hk
def cellA (env : Env) : List Addr := env.cells.filterMap fun p => if env.cells.lookup p.1 = some p.2 then some p.2 else Option.none
theorem mem_cellA {env : Env} {c : Addr} (h : c ∈ cellA env) : ∃ n, env.cells.lookup n = some c := by
  obtain ⟨p, _, e⟩ := List.mem_filterMap.mp h
  by_cases q : env.cells.lookup p.1 = some p.2
  · rw [if_pos q] at e; cases e; exact ⟨_, q⟩
  · rw [if_neg q] at e; cases e
theorem cellA_mem {env : Env} {n : Str} {c : Addr} (h : env.cells.lookup n = some c) : c ∈ cellA env :=
  List.mem_filterMap.mpr ⟨(n, c), mem_of_lookup h, if_pos h⟩
def Vo.call (V : Vo) (env : Env) : Vo := ⟨env :: V.l, env.locals :: cellA env ++ V.fs, V.its⟩
section
variable {C : Cx} {T : Tabs} {P : Prg} {A : Around} {q : Bool} {env : Env} {V : Vo} {nms : List Str} {ρ : Loc} {σ σ' : St} {ow ow' : Nat → Option Nat} {s s' : Shared}
theorem Vo.call_sub : ∀ b ∈ zss V, b ∈ zss (V.call env) := fun b h => by
  rcases List.mem_append.mp h with h | h
  · exact List.mem_append_left _ (List.mem_append_right _ h)
  · exact List.mem_append_right _ h
theorem Vo.call_fs {b : Addr} (h : b ∈ (V.call env).fs) : b = env.locals ∨ b ∈ cellA env ∨ b ∈ V.fs := by
  rcases List.mem_append.mp h with h | h
  · rcases List.mem_cons.mp h with h | h
    · exact .inl h
    · exact .inr (.inl h)
  · exact .inr (.inr h)
theorem Vo.call_mem {b : Addr} (h : b ∈ zss (V.call env)) : (b = env.locals ∨ b ∈ cellA env) ∨ b ∈ zss V := by
  rcases List.mem_append.mp h with h | h
  · rcases Vo.call_fs h with h | h | h
    · exact .inl (.inl h)
    · exact .inl (.inr h)
    · exact .inr (List.mem_append_left _ h)
  · exact .inr (List.mem_append_right _ h)
theorem zs_call {b : Addr} (h : Zs σ ow (zss V) b) : Zs σ ow (zss (V.call env)) b := h.imp id (Vo.call_sub b)
theorem Good.call_ {h' : Heap} {t : Nat} (G : Good C V σ ow s) (hk : env.scope.kind ≠ .module) (hf : env.frame = some env.locals) (gr : ∀ b o, s.heap.get? b = some o → h'.get? b = some o) (frL : s.heap.get? env.locals = Option.none) (lvL : ∃ o, h'.get? env.locals = some o ∧ ∀ vs, o.data ≠ .fields vs)
    (frC : ∀ n c, env.cells.lookup n = some c → s.heap.get? c = Option.none ∧ ∃ o, h'.get? c = some o) : Good C (V.call env) σ ow { s with heap := h', toks := t } := by
  have fr : ∀ b, b = env.locals ∨ b ∈ cellA env → s.heap.get? b = Option.none ∧ ∃ o, h'.get? b = some o := fun b m => by
    rcases m with m | m
    · subst m; exact ⟨frL, lvL.imp fun o e => e.1⟩
    · obtain ⟨n, e⟩ := mem_cellA m
      exact frC n b e
  have bn : ∀ b, s.heap.get? b = Option.none → C.base.get? b = Option.none := fun b e => by
    cases z : C.base.get? b with
    | none => rfl
    | some o => have := G.stays b o z; rw [e] at this; cases this
  have zg : Zg (Zs σ ow (zss V)) (Zs σ ow (zss (V.call env))) s.heap := fun b z => by
    rcases z with z | z
    · exact .inl (.inl z)
    · rcases Vo.call_mem z with z | z
      · exact .inr (fr b z).1
      · exact .inl (.inr z)
  refine ⟨fun b o e => gr b o (G.stays b o e), ⟨hk, ?_, G.frames.of_keeps fun b o e _ => ⟨o, gr b o e, rfl⟩⟩, fun b m n => ?_, fun b m => ?_, fun e' he L hL => ?_, fun b o' e => ?_, fun b c e => ?_, G.fresh, fun L hL z => ?_, G.gens⟩
  · obtain ⟨o, e, hd⟩ := lvL
    exact ⟨_, o, hf, bn _ frL, e, hd⟩
  · rcases Vo.call_fs n with n | n | n
    · obtain ⟨_, o, z⟩ := G.mem b (List.mem_append_right _ m)
      rw [(fr b (.inl n)).1] at z; cases z
    · obtain ⟨_, o, z⟩ := G.mem b (List.mem_append_right _ m)
      rw [(fr b (.inr n)).1] at z; cases z
    · exact G.apart b m n
  · rcases Vo.call_mem m with m | m
    · exact ⟨bn _ (fr b m).1, (fr b m).2⟩
    · obtain ⟨x, o, z⟩ := G.mem b m
      exact ⟨x, o, gr b o z⟩
  · rcases List.mem_cons.mp he with he | he
    · subst he
      rw [hf] at hL
      cases hL
      exact List.mem_append_left _ List.mem_cons_self
    · exact List.mem_append_right _ (G.sub e' he L hL)
  · have x := G.store b o' e
    obtain ⟨oa, ea⟩ := Option.isSome_iff_exists.mp x.live
    exact x.kp (fun b o e _ => gr b o e) zg (by rw [ea]; exact gr b oa ea) fun dx hd => by
      obtain ⟨od, ed⟩ := Option.isSome_iff_exists.mp (G.parts dx b hd).2.2
      exact ⟨by rw [ed]; exact gr dx od ed, hd⟩
  · obtain ⟨x1, x2, x3⟩ := G.parts b c e
    obtain ⟨od, ed⟩ := Option.isSome_iff_exists.mp x3
    exact ⟨x1, x2, by show (h'.get? b).isSome = true; rw [gr b od ed]; rfl⟩
  · rcases Vo.call_mem hL with m | m
    · obtain ⟨o, y⟩ := G.live z
      rw [(fr L m).1] at y; cases y
    · exact G.off L m z
theorem Good.left_ (hsub : ∀ env ∈ V.l, ∀ L, env.frame = some L → L ∈ V.fs) (G : Good C (V.call env) σ ow s) : Good C V σ ow s := by
  have zg : ∀ h : Heap, Zg (Zs σ ow (zss (V.call env))) (Zs σ ow (zss V)) h := fun h b z => .inl (zs_call z)
  refine ⟨G.stays, G.frames.2.2, fun b m n => G.apart b m (List.mem_append_right _ n), fun b m => G.mem b (Vo.call_sub b m), hsub, fun b o' e => ?_, G.parts, G.fresh, fun L hL => G.off L (Vo.call_sub L hL), G.gens⟩
  · exact (G.store b o' e).kp (fun _ _ e _ => e) (zg _) rfl fun dx hd => ⟨rfl, hd⟩
theorem get_zip {nms : List Str} {vs : List AV} {vals : List Value} {Z : Nat → Prop} {h : Heap} {n : Nat} (r : VRs C Z h vs vals) (hl : vs.length = n) (hn : n ≤ nms.length) {k i : Nat} {v : AV} (e : getL (vs.map some ++ List.replicate k Option.none) i = some v) :
    ∃ x u, nms[i]? = some x ∧ (x, u) ∈ (nms.take n).zip vals ∧ VR C Z h v u := by
  unfold getL at e
  rw [List.getD_eq_getElem?_getD] at e
  have hi : i < vs.length := by
    apply Decidable.byContradiction
    intro q
    rw [List.getElem?_append_right (by simpa using Nat.le_of_not_lt q)] at e
    simp only [List.length_map] at e
    rcases Nat.lt_or_ge (i - vs.length) k with z | z
    · rw [List.getElem?_replicate, if_pos z] at e; cases e
    · rw [List.getElem?_replicate, if_neg (by omega)] at e; cases e
  rw [List.getElem?_append_left (by simpa using hi), List.getElem?_map, List.getElem?_eq_getElem hi] at e
  simp at e
  subst e
  obtain ⟨u, hu, ru⟩ := r.get i _ (List.getElem?_eq_getElem hi)
  have hi2 : i < nms.length := by omega
  refine ⟨nms[i], u, List.getElem?_eq_getElem hi2, ?_, ru⟩
  refine List.mem_of_getElem? (i := i) ?_
  rw [List.getElem?_zip_eq_some]
  refine ⟨?_, hu⟩
  rw [List.getElem?_take, if_pos (by omega), List.getElem?_eq_getElem hi2]
theorem call_def {d : Nat} {F : Calls} (X : CxOk C T P) {f : Nat} {fi : FnI} {ft : FnT} (hfi : P.fns[f]? = some fi) (hO : FnOk C (C.fnA f) ft fi.arity) (hok : okF fi ft = true) (hB : BothB C d ft.sc ft.nms fi.quiet (fi.body F) ft.body)
    {vs : List AV} {vals : List Value} {Qa : PQ} {Ea : PE} {R : Result → Shared → Prop} (hl : vs.length = fi.arity)
    (w : fi.body F (vs.map some ++ List.replicate (fi.nloc - fi.arity) Option.none) σ (kFn Qa) (eFn Ea))
    (G : Good C V σ ow s) (ha : AOkF A V (d + 1)) (hh : HOk A fi.quiet (Zs σ ow (zss V)) s.heap) (r : VRs C (Zs σ ow (zss V)) s.heap vs vals)
    (kv : KV C V σ ow s (RV C) Qa (fun v s' => R (.ok (.ret v)) s')) (kx : KX C V σ ow s Ea (fun e s' => R (.error e) s')) : codeAny (model C.prog C.w) A (.call (.ref (C.fnA f)) ⟨vals, []⟩) R s := by
  obtain ⟨o, fd, f1, f2, f3, f4, f5, f6, f7, f8, f9, f10⟩ := hO.ex
  unfold okF at hok
  simp only [Bool.and_eq_true, decide_eq_true_eq, beq_iff_eq, Bool.not_eq_true', List.all_eq_true, Bool.or_eq_true] at hok
  obtain ⟨⟨⟨⟨⟨⟨o2, o3⟩, o4⟩, o5⟩, o6⟩, o7⟩, o8⟩ := hok
  have hlv : vals.length = fi.arity := r.length ▸ hl
  have hcell : ∀ x, ft.sc.names.lookup x = some .cell → ((cellsFrom (s.heap.objs.size + 1) fd.scope.names []).lookup x).isSome = true := fun x h => cellsFrom_has _ _ _ _ (by rw [f5]; exact h)
  refine codeAny_call_cells (by have := ha.depth; omega) (G.stays _ _ f1) f3 (X.nolimit.keeps G.stays) (f9.keeps G.stays) f4 (f10 vals hlv) f8 (fun p hp => ?_) (fun s₁ x => ?_) (by rw [f5]; exact o6) (by rw [f5]; exact o5) (by rw [f5]; exact o4)
  · have hm : p.1 ∈ ft.nms := List.mem_of_mem_take (List.of_mem_zip hp).1
    rw [f5]
    rcases o3 p.1 hm with h | h
    · exact .inl h
    · exact .inr ⟨h, by rw [← f5]; exact hcell p.1 h⟩
  generalize henv : callEnvC fd s.heap.objs.size (C.fnA f) = env at x ⊢
  have eL : env.locals = s.heap.objs.size := by rw [← henv]; rfl
  have eS : env.scope = ft.sc := by rw [← henv]; exact f5
  have eF : env.frame = some env.locals := by rw [← henv]; rfl
  have eC : env.cells = cellsFrom (s.heap.objs.size + 1) fd.scope.names [] := by rw [← henv]; rfl
  have eG : env.globals = mainGlobals := by rw [← henv]; exact f6
  have eB : env.builtins = builtinsNs := by rw [← henv]; exact f7
  obtain ⟨xin, xc, xa, xv⟩ := x
  obtain ⟨⟨h', tk, rfl⟩, xn, xk, xf⟩ := xin
  have frL : s.heap.get? env.locals = Option.none := by rw [eL]; exact Heap.fresh _
  have frC : ∀ n c, env.cells.lookup n = some c → s.heap.get? c = Option.none := fun n c e => by
    cases z : s.heap.get? c with
    | none => rfl
    | some ob =>
      have h1 := Heap.lt_size z
      have h2 := xv n c (mem_of_lookup e)
      exact absurd (Nat.lt_of_lt_of_le h1 xf) (Nat.not_lt.mpr (Nat.le_of_lt h2))
  have frX : ∀ b ∈ ownX env, s.heap.get? b = Option.none := fun b m => by
    rcases List.mem_cons.mp m with m | m
    · rw [m]; exact frL
    · obtain ⟨p, hp, e⟩ := List.mem_map.mp m
      cases z : s.heap.get? b with
      | none => rfl
      | some ob =>
        have h1 := Heap.lt_size z
        have h2 := xv p.1 p.2 hp
        subst e
        exact absurd (Nat.lt_of_lt_of_le h1 xf) (Nat.not_lt.mpr (Nat.le_of_lt h2))
  have lvL : ∃ o, h'.get? env.locals = some o ∧ ∀ vs, o.data ≠ .fields vs := by
    obtain ⟨o, es, ep, ho, hd, _⟩ := xn
    exact ⟨o, ho, fun vs q => by rw [hd] at q; cases q⟩
  have g₁ : Good C (V.call env) σ ow { s with heap := h', toks := tk } := G.call_ (by rw [eS, o4]; decide) eF xk frL lvL fun n c e => ⟨frC n c e, by
    obtain ⟨o, z, _⟩ := xc n c e
    exact ⟨o, z⟩⟩
  have zg : Zg (Zs σ ow (zss V)) (Zs σ ow (zss (V.call env))) s.heap := fun b z => by
    rcases z with z | z
    · exact .inl (.inl z)
    · rcases Vo.call_mem z with z | z
      · rcases z with z | z
        · exact .inr (by rw [z]; exact frL)
        · obtain ⟨n, e⟩ := mem_cellA z
          exact .inr (frC n b e)
      · exact .inl (.inr z)
  have hFE : FEnv env ft.nms (V.call env) V.l := by
    refine ⟨rfl, by rw [eS]; exact o4, eF, List.mem_append_left _ List.mem_cons_self, fun y c hc => ⟨List.mem_append_left _ (List.mem_cons_of_mem _ (cellA_mem hc)), ?_⟩, fun y z c hy hz => name_of_addr xa (mem_of_lookup hy) (mem_of_lookup hz), o2, fun y hy => ?_⟩
    · have := xv y c (mem_of_lookup hc)
      exact Nat.ne_of_gt this
    · unfold Env.kindOf
      rw [eS]
      rcases o3 y hy with h | h
      · exact .inl h
      · exact .inr ⟨h, by
          have := hcell y h
          rw [← eC] at this
          exact Option.isSome_iff_exists.mp this⟩
  have nd : (((ft.nms.take fi.arity).zip vals).map (·.1)).Nodup := by
    rw [List.map_fst_zip (by rw [List.length_take]; omega)]
    exact o2.sublist (List.take_sublist _ _)
  have ha' : AOk (A.deeper env) (V.call env) d := ha.deeper env _ _
  have k₁ : SOk C (A.deeper env) fi.quiet env (V.call env) ft.nms (vs.map some ++ List.replicate (fi.nloc - fi.arity) Option.none) σ ow { s with heap := h', toks := tk } := by
    refine ⟨⟨g₁, ⟨by rw [eS]; exact o4, eG, eB, fun z => ?_, fun i v e => ?_⟩, ?_, lvL.imp fun o e => e.1⟩, ⟨_, xn⟩, fun y c hc => ⟨_, xc y c hc⟩⟩
    · obtain ⟨ob, y⟩ := G.live z
      rw [frL] at y; cases y
    · obtain ⟨y, u, ey, hm, ru⟩ := get_zip (nms := ft.nms) r hl o7 e
      refine ⟨y, u, ey, ru.kp (fun b o e _ => xk b o e) zg, ?_⟩
      have hy : y ∈ ft.nms := List.mem_of_getElem? ey
      rcases hFE.kinds y hy with h | ⟨h, c, hc⟩
      · exact .inl ⟨h, _, xn, bindL_get _ _ nd hm h⟩
      · refine .inr ⟨c, .inl h, hc, ?_, fun z => ?_⟩
        · have := xc y c hc
          rw [bindC_get _ _ nd hm (by rw [h]; decide)] at this
          exact this
        · obtain ⟨ob, w⟩ := G.live z
          rw [frC y c hc] at w; cases w
    · rcases hh with h | ⟨hq, e, o, vs, h1, h2, h3, h4, h5⟩
      · exact .inl h
      · exact .inr ⟨hq, e, o, vs, h1, xk _ _ h2, h3, h4, zg.not h2 h5⟩
  have toStp : ∀ σ' ow' s', SStp (ownX env) (V.call env).fs (Own σ ow) (Own σ' ow') { s with heap := h', toks := tk } s' → Stp (frs V) (Own σ ow) (Own σ' ow') s s' := fun σ' ow' s' x => by
    have nC : ∀ b o, s.heap.get? b = some o → b ∉ V.fs → b ∉ (V.call env).fs := fun b o e n m => by
      rcases Vo.call_fs m with m | m | m
      · rw [m, frL] at e; cases e
      · obtain ⟨y, hy⟩ := mem_cellA m
        rw [frC y b hy] at e; cases e
      · exact n m
    refine ⟨fun b o e n m => x.keep b o (xk b o e) n (nC b o e m), fun b o e m => x.frm b o (xk b o e) (List.mem_append_right _ m) (fun w => by rw [frX b w] at e; cases e), x.grow, fun b z => (x.fresh b z).imp id fun w => ?_, x.gens, x.drawn, x.os⟩
    cases e : s.heap.get? b with
    | none => rfl
    | some o => have := xk b o e; have w' : h'.get? b = Option.none := w; rw [w'] at this; cases this
  have vrL : ∀ {σ' : St} {ow' : Nat → Option Nat} {h : Heap} {v : AV} {u : Value}, VR C (Zs σ' ow' (zss (V.call env))) h v u → VR C (Zs σ' ow' (zss V)) h v u := fun r => r.kp (fun _ _ e _ => e) fun b z => .inl (zs_call z)
  refine hB.snd (A.deeper env) env (V.call env) V.l hFE eS ha' _ σ ow _ _ _ _ _ w k₁ (fun fl af ρ' σ' ow' s' z st k' rf => ?_) (fun e c ρ' σ' ow' s' z st k' th => ?_)
  · cases rf with
    | next => exact kv _ _ σ' ow' s' z (toStp _ _ _ st) (k'.ok.good.left_ G.sub) .none
    | ret r' => exact kv _ _ σ' ow' s' z (toStp _ _ _ st) (k'.ok.good.left_ G.sub) (vrL r')
  · have t0 := th.1
    unfold leaving
    refine wpAny_bind (note_snd hFE ha'.frames g₁.stays st k' th fun s'' Tb st' k'' x nT nZ => ?_)
    refine flight_snd hFE g₁.stays st' k'' ⟨t0.1, t0.2.1⟩ x nT nZ fun s₃ st₃ k₃ x₃ => ?_
    have up : ∀ b, h'.get? b = Option.none → s.heap.get? b = Option.none := fun b w => by
      cases e : s.heap.get? b with
      | none => rfl
      | some o => have := xk b o e; rw [w] at this; cases this
    exact kx e c σ' ow' s₃ z (toStp _ _ _ st₃) (k₃.ok.good.left_ G.sub) ⟨⟨up _ t0.1, fun w => t0.2.1 (zs_call w), t0.2.2⟩, _, x₃, fun T' fl' y => by cases y; exact ⟨rfl, up _ nT, fun w => nZ (zs_call w)⟩⟩
theorem wpF_snd (X : CxOk C T P) (hok : ∀ (f : Nat) (fi : FnI) (ft : FnT), P.fns[f]? = some fi → T.fts[f]? = some ft → okF fi ft = true)
    (hB : ∀ (F : Calls) (d : Nat), SndF C P d F → ∀ (f : Nat) (fi : FnI) (ft : FnT), P.fns[f]? = some fi → T.fts[f]? = some ft → BothB C d ft.sc ft.nms fi.quiet (fi.body F) ft.body) : ∀ d, SndF C P d (wpF P d) := by
  intro d
  induction d with
  | zero => exact fun f vs vals σ ow s Qa Ea R A V w => False.elim w
  | succ d ih =>
    intro f vs vals σ ow s Qa Ea R A V w G ha hh r kv kx
    obtain ⟨fi, hfi, hl, w⟩ := w
    obtain ⟨ft, h1, h2⟩ := X.fns f fi hfi
    have hq : qOf P f = fi.quiet := by unfold qOf; rw [hfi]; rfl
    rw [hq] at hh
    exact call_def X hfi h2 (hok f fi ft hfi h1) (hB _ d ih f fi ft hfi h1) hl w G ha hh r kv kx
end
end Ap
end
section
set_option Elab.async false
set_option linter.unusedVariables false
set_option linter.unusedSimpArgs false
set_option maxRecDepth 100000
namespace Ap
open PySem PySem.W PySem.Calls PyProof.Rows
section
variable {prog : Program} {w : World} {A : Around} {E : Value → Shared → Prop} {s : Shared} {K : Frag} {x D : Addr} {ox : Obj} {odo : Option Obj}
theorem findObjN {a g : Value} {name : Str} (hc : (clsIn K D).isSome = true) (ha : findIn K (.ref D) name = some (some a)) (hg : specialIn K a "__get__" = some (some g)) (ht : takesIn K a = some true) : findObj K D odo name = some (.bind g a) := by
  obtain ⟨cd, hc⟩ := Option.isSome_iff_exists.mp hc
  unfold findObj
  rw [hc, Option.bind_some, ha, Option.bind_some]
  simp [hg, ht]
structure XFacts (K : Frag) (D : Addr) : Prop where
  ga : findIn K (.ref D) "__getattribute__" = some (some (.builtin "BaseException.__getattribute__"))
  gh : findIn K (.ref D) "__getattr__" = some Option.none
  ca : findIn K (.ref D) "__class__" = some (some (.builtin "object.__class__"))
  cg : specialIn K (.builtin "object.__class__") "__get__" = some (some (.builtin "getset_descriptor.__get__"))
  ct : takesIn K (.builtin "object.__class__") = some true
  mo : mroIn K D (.type "object") = some true
  mb : mroIn K D (.type "BaseException") = some true
  cl : (clsIn K D).isSome = true
theorem exc_class (XF : XFacts K D) {Q : Option Value → Shared → Prop} (X : K.In s.heap) (I : InstAt s.heap x ox D odo) (hS : Slot "ValueError" "__getattribute__" "BaseException.__getattribute__") (h : Q (some (.ref D)) { s with toks := s.toks + 1 }) : wpAny (model prog w) A (getAttr? (.ref x) "__class__") Q E s := by
  obtain ⟨hh, g, d, t, os⟩ := s
  have L0 := I.type (M := model prog w)
  have L1 := looks_findIn (M := model prog w) X XF.ga
  have L2 := looks_findIn (M := model prog w) X XF.gh
  have L3 := looks_find (M := model prog w) X I (findObjN (odo := odo) XF.cl XF.ca XF.cg XF.ct)
  have L4 := looks_mroIn (M := model prog w) X XF.mb
  have hk : builtinKind "BaseException.__getattribute__" = some .slot := by decide +kernel
  have hsplit : splitId "BaseException.__getattribute__" = some ("BaseException", "__getattribute__") := by decide +kernel
  have hb := hS.bind (.ref x)
  have hx2 : (Value.builtin "BaseException.__getattribute__" == Value.builtin "object.__getattribute__") = false := by decide +kernel
  unfold getAttr? getAttrBy? getAttrBy
  refine wpAny_bind (wpAny_mkText (wpAny_bind (wpAny_attempt (wpAny_holding (wpAny_bind (L0.at (wpAny_bind (L1.at ?_))))))))
  show wpAny _ _ (if (onTheHeap (Value.ref D) && Value.builtin "BaseException.__getattribute__" == Value.builtin "object.__getattribute__") = true then _ else _) _ _ _
  rw [hx2, Bool.and_false, if_neg (by decide)]
  unfold getAttrByItsOwn hookBefore
  refine wpAny_bind ?_
  show wpAny _ _ (typeLookup (.ref D) "__getattr__") _ _ _
  refine L2.at ?_
  refine wpAny_bind (wpAny_attempt (wpAny_holding ?_))
  unfold callGetattribute boundAndCalled
  rw [Bool.false_and, if_neg (by decide), hb]
  refine wpAny_bind (wpAny_pure ?_)
  show wpAny _ _ (call (.builtin "BaseException.__getattribute__") [.ref x, .str "__class__" t]) _ _ _
  have ha := F.args_bexc_ga (.ref x) (.str "__class__" t)
  refine wpAny_call (codeAny_call_builtin hS.plain F.entry_bexc_ga ?_)
  simp only [checkBuiltinCall, hk, hsplit]
  refine wpAny_bind ?_
  unfold isInstance
  refine wpAny_bind (L0.at (L4.at ?_))
  rw [if_neg (by decide)]
  refine wpAny_of_eq (a := ()) ha ?_
  unfold Builtin.«object.__getattribute__» slotArgs
  refine wpAny_bind (wpAny_pure ?_)
  refine wpAny_bind (wpAny_pure ?_)
  refine wpAny_bind (L0.at (wpAny_bind (L3.at ?_)))
  show wpAny _ _ (Builtin.ObjectAttr.bindTo _ _ _ _) _ _ _
  unfold Builtin.ObjectAttr.bindTo
  refine wpAny_bind (wpAny_holding (wpAny_call (class_get (s := ⟨hh, g, d, t + 1, os⟩) X I XF.mo ?_)))
  refine wpAny_pure ?_
  refine handed_on rfl ?_
  exact wpAny_pure h
end
section
noncomputable def oK (K : Frag) (a : Addr) : Obj := (K.lookup a).getD default
noncomputable def cdK (K : Frag) (a : Addr) : ClassData := match (oK K a).data with | .cls cd => cd | _ => default
noncomputable def fdK (K : Frag) (a : Addr) : FuncData := match (oK K a).data with | .func fd => fd | _ => default
noncomputable def esK (K : Frag) (a : Addr) : Array DictEntry := match (oK K a).data with | .dict es _ => es | _ => #[]
noncomputable def epK (K : Frag) (a : Addr) : Nat := match (oK K a).data with | .dict _ ep => ep | _ => 0
noncomputable def fsK (K : Frag) (a : Addr) : Array Value := match (oK K a).data with | .fields vs => vs | _ => #[]
noncomputable def slK (K : Frag) (a : Addr) (i : Nat) : Option Value := ((oK K a).slots.toList[i]?).getD Option.none
def adK : Value → Addr | .ref a => a | _ => 0
def tkK : Value → Tok | .str _ t => t | _ => 0
def isS : Value → Bool | .str _ _ => true | _ => false
theorem isS_of {v : Value} (h : isS v = true) : ∃ n t, v = .str n t := by
  cases v <;> first | exact ⟨_, _, rfl⟩ | cases h
structure NsD (K : Frag) (N : Addr) : Prop where
  at_ : K.lookup N = some { oK K N with data := .dict (esK K N) (epK K N) }
  keys : ((esK K N).toList.all fun e => isS e.key) = true
theorem NsD.ns {K : Frag} {h : Heap} {N : Addr} (X : K.In h) (e : NsD K N) : h.Ns N (nsFind (esK K N)) :=
  ⟨_, _, _, X _ _ e.at_, rfl, fun x hx => isS_of (List.all_eq_true.mp e.keys x (Array.mem_toList_iff.mpr hx)), fun _ => rfl⟩
theorem ns_uniq {h : Heap} {N : Addr} {m m' : Str → Option Value} (a : h.Ns N m) (b : h.Ns N m') (x : Str) : m x = m' x := by
  obtain ⟨o1, es1, ep1, a1, a2, _, a3⟩ := a
  obtain ⟨o2, es2, ep2, b1, b2, _, b3⟩ := b
  rw [a1] at b1
  cases b1
  rw [a2] at b2
  cases b2
  rw [← a3, b3]
structure ClsK (K : Frag) (T : Tabs) (fa : List Addr) (a : Addr) (ci : ClsI) : Prop where
  at_ : K.lookup a = some (excClassObj (cdK K a).name (cdK K a).qualname a (cdK K a).ns (cdK K a).bases [.type "object"] true (cdK K a).slotNames (cdK K a).subclasses false (cdK K a).collection (oK K a).dict (slK K a 0) (slK K a 1) (slK K a 2) (slK K a 3) (slK K a 5) "object.__new__")
  ns : NsD K (cdK K a).ns
  ga : nsFind (esK K (cdK K a).ns) "__getattribute__" = Option.none
  gt : nsFind (esK K (cdK K a).ns) "__getattr__" = Option.none
  sa : nsFind (esK K (cdK K a).ns) "__setattr__" = Option.none
  ini : ∀ f, ci.init = some f → nsFind (esK K (cdK K a).ns) "__init__" = some (.ref (fa.getD f 0))
  ms : (ci.meths.all fun p => nsFind (esK K (cdK K a).ns) (T.atN.getD p.1 Str.empty) == some (.ref (fa.getD p.2 0))) = true
  no : ((List.range T.atN.length).all fun k => (ci.meths.lookup k).isSome || nsFind (esK K (cdK K a).ns) (T.atN.getD k Str.empty) == Option.none) = true
theorem lookup_mem {α β : Type} [BEq α] [LawfulBEq α] {a : α} {b : β} : ∀ {l : List (α × β)}, l.lookup a = some b → (a, b) ∈ l := by
  intro l
  induction l with
  | nil => intro h; cases h
  | cons p r ih =>
    obtain ⟨k, v⟩ := p
    intro h
    rw [List.lookup_cons] at h
    cases hb : a == k with
    | true => rw [hb] at h; cases h; rw [beq_iff_eq.mp hb]; exact List.mem_cons_self
    | false => rw [hb] at h; exact List.mem_cons_of_mem _ (ih h)
def veM : List Value := [.type "ValueError", .type "Exception", .type "BaseException", .type "object"]
def xfK (K : Frag) (D : Addr) : Bool :=
  findIn K (.ref D) "__getattribute__" == some (some (.builtin "BaseException.__getattribute__")) && findIn K (.ref D) "__getattr__" == some Option.none && findIn K (.ref D) "__class__" == some (some (.builtin "object.__class__")) &&
  specialIn K (.builtin "object.__class__") "__get__" == some (some (.builtin "getset_descriptor.__get__")) && takesIn K (.builtin "object.__class__") == some true && mroIn K D (.type "object") == some true && mroIn K D (.type "BaseException") == some true && (clsIn K D).isSome
theorem xfK_of {K : Frag} {D : Addr} (h : xfK K D = true) : XFacts K D := by
  unfold xfK at h
  simp only [Bool.and_eq_true, beq_iff_eq] at h
  obtain ⟨⟨⟨⟨⟨⟨⟨h1, h2⟩, h3⟩, h4⟩, h5⟩, h6⟩, h7⟩, h8⟩ := h
  exact ⟨h1, h2, h3, h4, h5, h6, h7, h8⟩
structure ExcK (K : Frag) (a : Addr) : Prop where
  at_ : K.lookup a = some (excClassObj (cdK K a).name (cdK K a).qualname a (cdK K a).ns (cdK K a).bases (cdK K a).mro.tail (cdK K a).hasDict (cdK K a).slotNames (cdK K a).subclasses (cdK K a).abstract (cdK K a).collection (oK K a).dict (slK K a 0) (slK K a 1) (slK K a 2) (slK K a 3) (slK K a 5) "ValueError.__new__")
  ns : NsD K (cdK K a).ns
  ini : nsFind (esK K (cdK K a).ns) "__init__" = Option.none
  tail : (cdK K a).mro.tail = veM ∨ ∃ p, (cdK K a).mro.tail = .ref p :: veM ∧ K.lookup p = some { oK K p with data := .cls (cdK K p) } ∧ NsD K (cdK K p).ns ∧ nsFind (esK K (cdK K p).ns) "__init__" = Option.none
  be : (cdK K a).mro.tail.contains (.type "BaseException") = true
  xf : xfK K a = true
  kv : kitOne K (.ref a) (.type "ValueError") = some true
theorem ExcK.at' {C : Cx} {K : Frag} {c : Nat} (X : K.In C.base) (h : ExcK K (C.clsA c)) : ExcAt C c := by
  refine ⟨⟨_, _, _, _, _, veM, _, _, _, _, _, _, _, _, _, _, _, "ValueError", "ValueError.__new__", "ValueError.__init__", _, X _ _ h.at_, h.ns.ns X, h.ini, ?_, PySem.F.excBase_ValueError, h.be⟩⟩
  rcases h.tail with e | ⟨p, e, p1, p2, p3⟩
  · rw [e]; exact .base
  · rw [e]; exact .own (X _ _ p1) (p2.ns X) p3 .base
theorem kitx_exc {K : Frag} {x D : Addr} {ox : Obj} (XF : XFacts K D) : KitX K (.ref x) (.ref D) (fun h => InstAt h x ox D Option.none) where
  ty := fun _ _ _ I => I.type
  it := fun _ _ X _ => by
    obtain ⟨cdD, hcD⟩ := Option.isSome_iff_exists.mp XF.cl
    unfold clsIn at hcD
    split at hcD
    · rename_i c' d' cd' sl' ho
      intro A' Q' E' s' k q
      unfold isType loadHead
      exact wpAny_bind (wpAny_loadPart (k _ _ (X _ _ ho)) (wpAny_pure q))
    · cases hcD
  ne := fun h tp dd its n sl X htp => by
    obtain ⟨cdD, hcD⟩ := Option.isSome_iff_exists.mp XF.cl
    refine Bool.eq_false_iff.mpr fun q => ?_
    have e : D = tp := Value.ref.inj (beq_iff_eq.mp q)
    subst e
    unfold clsIn at hcD
    split at hcD
    · rename_i c' d' cd' sl' ho
      have z := (X _ _ ho).symm.trans htp
      cases z
    · cases hcD
  ca := fun X I k => exc_class XF X I PySem.F.attr_ValueError.ga k
theorem inst_of {h : Heap} {e D : Addr} {o : Obj} {vs : Array Value} (h1 : h.get? e = some o) (h2 : o.cls = .ref D) (h3 : o.data = .fields vs) (h4 : o.dict = Option.none) : InstAt h e o D Option.none :=
  ⟨h1, h2, by unfold notCls; rw [h3], by rw [h4]; trivial⟩
theorem isiX_of {C : Cx} {K : Frag} {c : Nat} {t : Value} {b : Bool} (X : K.In C.base) (XF : XFacts K (C.clsA c)) (e : kitOne K (.ref (C.clsA c)) t = some b) : IsiX C c t b :=
  fun A Q E s e' o vs st h1 h2 h3 h4 h => kia_one (kitx_exc XF) (X.keeps st) (inst_of h1 h2 h3 h4) e (by intro q; cases q) h
theorem exmX_of {C : Cx} {K : Frag} {c d : Nat} {b : Bool} (X : K.In C.base) (e : exmOne K (.ref (C.clsA c)) (.ref (C.clsA d)) = some b) : ExmX C c d b :=
  fun A Q E s e' o vs st h1 h2 h3 h4 h => (exm_one (X.keeps st) (inst_of h1 h2 h3 h4).type e).here h
structure FnK (K : Frag) (a : Addr) (fi : FnI) (ft : FnT) : Prop where
  at_ : K.lookup a = some { oK K a with cls := .type "function", data := .func (fdK K a) }
  body : (fdK K a).body = .stmts ft.body
  scope : (fdK K a).scope = ft.sc
  globals : (fdK K a).globals = mainGlobals
  builtins : (fdK K a).builtins = builtinsNs
  closure : (fdK K a).closure = []
  cref : (fdK K a).code = .ref (adK (fdK K a).code)
  cobj : K.lookup (adK (fdK K a).code) = some { oK K (adK (fdK K a).code) with data := .fields (fsK K (adK (fdK K a).code)) }
  cnam : (fsK K (adK (fdK K a).code))[1]? = some (.str (fdK K a).qualname (tkK (((fsK K (adK (fdK K a).code))[1]?).getD .none)))
  bind : ∀ vals : List Value, vals.length = fi.arity → bindArgs (fdK K a) ⟨vals, []⟩ = pure ((ft.nms.take fi.arity).zip vals)
theorem bind1 {fd : FuncData} {r : List Value → List (Str × Value)} (h : ∀ a, bindArgs fd ⟨[a], []⟩ = pure (r [a])) (vals : List Value) (hl : vals.length = 1) : bindArgs fd ⟨vals, []⟩ = pure (r vals) := by
  obtain ⟨a, rfl⟩ := List.length_eq_one_iff.mp hl
  exact h a
theorem len_cons {n : Nat} {vals : List Value} (hl : vals.length = n + 1) : ∃ a r, vals = a :: r ∧ r.length = n := by
  cases vals with
  | nil => cases hl
  | cons a r => exact ⟨a, r, rfl, Nat.succ.inj hl⟩
theorem bind2 {fd : FuncData} {r : List Value → List (Str × Value)} (h : ∀ a b, bindArgs fd ⟨[a, b], []⟩ = pure (r [a, b])) (vals : List Value) (hl : vals.length = 2) : bindArgs fd ⟨vals, []⟩ = pure (r vals) := by
  obtain ⟨a, v1, rfl, h1⟩ := len_cons hl
  obtain ⟨b, rfl⟩ := List.length_eq_one_iff.mp h1
  exact h a b
theorem bind3 {fd : FuncData} {r : List Value → List (Str × Value)} (h : ∀ a b c, bindArgs fd ⟨[a, b, c], []⟩ = pure (r [a, b, c])) (vals : List Value) (hl : vals.length = 3) : bindArgs fd ⟨vals, []⟩ = pure (r vals) := by
  obtain ⟨a, v1, rfl, h1⟩ := len_cons hl
  obtain ⟨b, v2, rfl, h2⟩ := len_cons h1
  obtain ⟨c, rfl⟩ := List.length_eq_one_iff.mp h2
  exact h a b c
theorem bind4 {fd : FuncData} {r : List Value → List (Str × Value)} (h : ∀ a b c d, bindArgs fd ⟨[a, b, c, d], []⟩ = pure (r [a, b, c, d])) (vals : List Value) (hl : vals.length = 4) : bindArgs fd ⟨vals, []⟩ = pure (r vals) := by
  obtain ⟨a, v1, rfl, h1⟩ := len_cons hl
  obtain ⟨b, v2, rfl, h2⟩ := len_cons h1
  obtain ⟨c, v3, rfl, h3⟩ := len_cons h2
  obtain ⟨d, rfl⟩ := List.length_eq_one_iff.mp h3
  exact h a b c d
structure KDat (K : Frag) (T : Tabs) (P : Prg) (fa ca : List Addr) : Prop where
  g : NsD K mainGlobals
  fnN : (T.fnN.zipIdx.all fun p => p.1 == Str.empty || nsFind (esK K mainGlobals) p.1 == some (.ref (fa.getD p.2 0))) = true
  clsN : (T.clsN.zipIdx.all fun p => nsFind (esK K mainGlobals) p.1 == some (.ref (ca.getD p.2 0))) = true
  bltN : (T.bltN.all fun x => nsFind (esK K mainGlobals) x == Option.none) = true
  inj : T.atN.Nodup
  ne : Str.empty ∉ T.atN
  objN : (T.atN.all fun x => fastLookup "object" x == some Option.none) = true
  lens : fa.length = P.fns.length ∧ T.fnN.length = P.fns.length ∧ ca.length = P.cls.length ∧ T.fts.length = P.fns.length
  ics : ∀ c ci, P.cls[c]? = some ci → ci.init ≠ Option.none → ClsK K T fa (ca.getD c 0) ci
  xcs : ∀ c ci, P.cls[c]? = some ci → ci.init = Option.none → ExcK K (ca.getD c 0)
  xps : ((P.cls.zip ca).all fun p => p.1.init.isSome || (P.cls.zip ca).zipIdx.all fun q => q.1.1.init.isSome || (kitOne K (.ref p.2) (.ref q.1.2) == some (p.1.sups.contains q.2) && exmOne K (.ref p.2) (.ref q.1.2) == some (p.1.sups.contains q.2))) = true
  fns : ∀ f fi ft, P.fns[f]? = some fi → T.fts[f]? = some ft → FnK K (fa.getD f 0) fi ft
  sh : ((P.fns.zip T.fts).all fun p => okF p.1 p.2) = true
def hasI (P : Prg) (b : Bool) (c : Nat) : Bool := match P.cls[c]? with | some ci => ci.init.isSome == b | Option.none => false
theorem hasI_of {P : Prg} {b : Bool} {c : Nat} (h : hasI P b c = true) : ∃ ci, P.cls[c]? = some ci ∧ ci.init.isSome = b := by
  unfold hasI at h
  cases e : P.cls[c]? with
  | none => rw [e] at h; cases h
  | some ci => rw [e] at h; exact ⟨ci, rfl, beq_iff_eq.mp h⟩
theorem hasI_mk {P : Prg} {b : Bool} {c : Nat} {ci : ClsI} (h : P.cls[c]? = some ci) (h' : ci.init.isSome = b) : c ∈ (List.range P.cls.length).filter (hasI P b) := by
  refine List.mem_filter.mpr ⟨List.mem_range.mpr (List.getElem?_eq_some_iff.mp h).1, ?_⟩
  unfold hasI
  rw [h]
  exact beq_iff_eq.mpr h'
def cxOf (prog : Program) (w : World) (h : Heap) (mg mb : Str → Option Value) (T : Tabs) (P : Prg) (fa ca : List Addr) : Cx where
  prog := prog
  w := w
  base := h
  clsA := fun c => ca.getD c 0
  fnA := fun f => fa.getD f 0
  nm := fun k => T.atN.getD k Str.empty
  mg := mg
  mb := mb
  ics := (List.range P.cls.length).filter (hasI P true)
  xcs := (List.range P.cls.length).filter (hasI P false)
theorem zip_get {α β : Type} {l : List α} {r : List β} {i : Nat} {a : α} {b : β} (h1 : l[i]? = some a) (h2 : r[i]? = some b) : (a, b) ∈ l.zip r :=
  List.mem_of_getElem? (i := i) (List.getElem?_zip_eq_some.mpr ⟨h1, h2⟩)
theorem getD_of {l : List Nat} {i d : Nat} (h : i < l.length) : l[i]? = some (l.getD i d) := by
  rw [List.getD_eq_getElem?_getD, List.getElem?_eq_getElem h]; rfl
theorem cxOk_of {K : Frag} {T : Tabs} {P : Prg} {fa ca : List Addr} {prog : Program} {w : World} {h : Heap} {mg mb : Str → Option Value} (X : K.In h) (g : h.Ns mainGlobals mg) (b : h.Ns builtinsNs mb) (nl : h.NoLimit)
    (bt : ∀ x : Str, x ≠ "__name__" → mb x = bootBuiltins x) (D : KDat K T P fa ca) : CxOk (cxOf prog w h mg mb T P fa ca) T P := by
  obtain ⟨l1, l2, l3, l4⟩ := D.lens
  have gv : ∀ x r, nsFind (esK K mainGlobals) x = r → mg x = r := fun x r e => (ns_uniq g (D.g.ns X) x).trans e
  have xc : ∀ c ∈ (cxOf prog w h mg mb T P fa ca).xcs, ∃ ci, P.cls[c]? = some ci ∧ ci.init = Option.none := fun c hc => by
    obtain ⟨ci, h1, h2⟩ := hasI_of (List.mem_filter.mp hc).2
    refine ⟨ci, h1, ?_⟩
    cases e : ci.init with
    | none => rfl
    | some f => rw [e] at h2; cases h2
  have xp : ∀ c ∈ (cxOf prog w h mg mb T P fa ca).xcs, ∀ d ∈ (cxOf prog w h mg mb T P fa ca).xcs, ∀ ci, P.cls[c]? = some ci → kitOne K (.ref (ca.getD c 0)) (.ref (ca.getD d 0)) = some (ci.sups.contains d) ∧ exmOne K (.ref (ca.getD c 0)) (.ref (ca.getD d 0)) = some (ci.sups.contains d) := fun c hc d hd ci hci => by
    obtain ⟨ci', y1, y2⟩ := xc c hc
    rw [hci] at y1
    cases y1
    obtain ⟨cj, z1, z2⟩ := xc d hd
    have lc : c < ca.length := by rw [l3]; exact (List.getElem?_eq_some_iff.mp hci).1
    have ld : d < ca.length := by rw [l3]; exact (List.getElem?_eq_some_iff.mp z1).1
    have := List.all_eq_true.mp D.xps _ (zip_get hci (getD_of (d := 0) lc))
    rw [y2, Option.isSome_none, Bool.false_or] at this
    have hz : ((cj, ca.getD d 0), d) ∈ (P.cls.zip ca).zipIdx := List.mem_zipIdx_iff_getElem?.mpr (List.getElem?_zip_eq_some.mpr ⟨z1, getD_of ld⟩)
    have := List.all_eq_true.mp this _ hz
    rw [z2, Option.isSome_none, Bool.false_or, Bool.and_eq_true, beq_iff_eq, beq_iff_eq] at this
    exact this
  refine
  { g := g, b := b, nolimit := nl, builtins := bt
    fnN := fun f x e ne => ?_, clsN := fun c x e => ?_, bltN := fun x hx => ?_, nm := fun _ => rfl, inj := D.inj, ne := D.ne, objN := fun x hx => ?_, fnF := fun f hf => ?_,
    cls := fun c hc => ?_, ics := fun c ci hc hi => ?_, xcs := fun c ci hc hi => ?_, isiC := fun c hc d hd ci hci => ?_, isiV := fun c hc => ?_, exm := fun c hc d hd ci hci => ?_, exc := fun c hc => ?_, fns := fun f fi hf => ?_ }
  · have := List.all_eq_true.mp D.fnN (x, f) (List.mem_zipIdx_iff_getElem?.mpr e)
    rw [Bool.or_eq_true, beq_iff_eq, beq_iff_eq] at this
    exact gv _ _ (this.resolve_left ne)
  · have := List.all_eq_true.mp D.clsN (x, c) (List.mem_zipIdx_iff_getElem?.mpr e)
    rw [beq_iff_eq] at this
    exact gv _ _ this
  · have := List.all_eq_true.mp D.bltN x hx
    rw [beq_iff_eq] at this
    exact gv _ _ this
  · have := List.all_eq_true.mp D.objN x hx
    rw [beq_iff_eq] at this
    rw [typeLookup_type, builtinLookup_eq_fast, this]
  · have hp : f < P.fns.length := by omega
    exact ⟨_, _, X _ _ (D.fns f _ _ (List.getElem?_eq_getElem hp) (List.getElem?_eq_getElem (by omega))).at_, rfl, rfl⟩
  · obtain ⟨ci, h1, h2⟩ := hasI_of (List.mem_filter.mp hc).2
    have k := D.ics c ci h1 (fun e => by rw [e] at h2; cases h2)
    refine ⟨ci, h1, ⟨⟨_, _, _, _, _, _, _, _, _, _, _, _, _, _, X _ _ k.at_, k.ns.ns X, k.ga, k.gt, k.sa, k.ini, fun m f hm => ?_, fun m hm hl => ?_⟩⟩⟩
    · exact beq_iff_eq.mp (List.all_eq_true.mp k.ms (m, f) (lookup_mem hm))
    · have := List.all_eq_true.mp k.no m (List.mem_range.mpr hl)
      rw [hm, Option.isSome_none, Bool.false_or] at this
      exact beq_iff_eq.mp this
  · refine hasI_mk hc ?_
    cases z : ci.init with
    | none => exact absurd z hi
    | some f => rfl
  · refine hasI_mk hc ?_
    rw [hi]; rfl
  · obtain ⟨ci', y1, y2⟩ := xc c hc
    exact isiX_of X (xfK_of (D.xcs c ci' y1 y2).xf) (xp c hc d hd ci hci).1
  · obtain ⟨ci', y1, y2⟩ := xc c hc
    exact isiX_of X (xfK_of (D.xcs c ci' y1 y2).xf) (D.xcs c ci' y1 y2).kv
  · exact exmX_of X (xp c hc d hd ci hci).2
  · obtain ⟨ci', y1, y2⟩ := xc c hc
    exact (D.xcs c ci' y1 y2).at' X
  · have hp := (List.getElem?_eq_some_iff.mp hf).1
    have ht : T.fts[f]? = some T.fts[f] := List.getElem?_eq_getElem (by omega)
    have k := D.fns f fi _ hf ht
    exact ⟨_, ht, ⟨⟨_, _, X _ _ k.at_, rfl, rfl, k.body, k.scope, k.globals, k.builtins, k.closure, ⟨_, _, _, _, k.cref, X _ _ k.cobj, rfl, k.cnam⟩, k.bind⟩⟩⟩
theorem wellInts {P : Params} {h : Heap} {C : Cx} {Z : Nat → Prop} : ∀ {ns : List Int} {vs : List Value}, WellAll P h vs (ns.map fun n => WData.int n) → VRs C Z h (ns.map .int) vs
  | [], _, x => by cases x; exact .nil
  | n :: ns, _, x => by
    cases x with
    | cons hd tl => cases hd; exact .cons (.int _ _) (wellInts tl)
theorem ofPy_ints (ns : List Int) : ofPy (.list (ns.map .int)) = .list (ns.map fun n => WData.int n) := by
  have h : ∀ l : List Int, ofPys (l.map .int) = l.map fun n => WData.int n := fun l => by
    induction l with
    | nil => rfl
    | cons n l ih =>
      show ofPy (.int n) :: ofPys (l.map .int) = _
      rw [ih]; rfl
  show WData.list (ofPys (ns.map .int)) = _
  rw [h]
def bdAt (l : List Stmt) (i : Nat) : List Stmt := match l[i]? with | some (.FunctionDef _ _ body _ _ _ _ _ _ _) => body | _ => []
def scAt (l : List Stmt) (i : Nat) : Scope := match l[i]? with | some (.FunctionDef _ _ _ _ _ _ sc _ _ _) => sc | _ => default
def clAt (l : List Stmt) (i : Nat) : List Stmt := match l[i]? with | some (.ClassDef _ _ _ body _ _ _ _ _ _ _) => body | _ => []
theorem boot_int : bootBuiltins (Str.ofString "int") = some (tyV .int) := by decide +kernel
theorem boot_bool : bootBuiltins (Str.ofString "bool") = some (tyV .bool) := by decide +kernel
theorem boot_ValueError : bootBuiltins (Str.ofString "ValueError") = some (.type "ValueError") := by decide +kernel
theorem bok_Len {C : Cx} : BiOk C true (Str.ofString "len") oLen := ⟨⟨_, by decide +kernel, .inl ⟨_, rfl⟩, bi_len⟩⟩
theorem bok_Max2 {C : Cx} : BiOk C false (Str.ofString "max") oMax2 := ⟨⟨_, by decide +kernel, .inl ⟨_, rfl⟩, bi_max2⟩⟩
theorem bok_IntB {C : Cx} : BiOk C true (Str.ofString "int") oIntB := ⟨⟨_, by decide +kernel, .inr ⟨_, rfl⟩, bi_intB⟩⟩
def AllI {α : Type} (P : Nat → α → Prop) : Nat → List α → Prop
  | _, [] => True
  | n, x :: r => P n x ∧ AllI P (n + 1) r
theorem AllI.get {α : Type} {P : Nat → α → Prop} : ∀ {l : List α} {n : Nat}, AllI P n l → ∀ i x, l[i]? = some x → P (n + i) x := by
  intro l
  induction l with
  | nil => intro n h i x e; cases e
  | cons y r ih =>
    intro n h i x e
    cases i with
    | zero => cases e; exact h.1
    | succ i => have := ih h.2 i x e; rw [show n + 1 + i = n + (i + 1) by omega] at this; exact this
theorem AllI.at0 {α : Type} {P : Nat → α → Prop} {l : List α} (h : AllI P 0 l) (i : Nat) (x : α) (e : l[i]? = some x) : P i x := by
  have := h.get i x e
  rwa [Nat.zero_add] at this
end
end Ap
end
section
set_option Elab.async false
set_option linter.unusedVariables false
set_option linter.unusedSimpArgs false
namespace Ap
open PySem
section
variable {F : Calls} {ρ : Loc} {σ : St} {Q : PQ} {E : PE} {QQ : QS} {EE : ES} {RL : List AV → St → Prop} {RB : Bool → St → Prop} {K : Bool → Prop} {a b c e : WE} {es : WL} {r : WBl} {cc : AV → WBl} {u v : AV} {vs xs ys : List AV} {i j x y : Int} {s t : Str} {n m f : Nat} {o : O2} {p : O1} {g : ON} {k : OC} {z w : Bool} {A B : WS} {H : WH}
theorem upd_self' (σ : St) (a : Nat) (o : AObj) : upd σ a o a = some o := if_pos rfl
theorem upd_ne' (σ : St) {a b : Nat} (o : AObj) (h : b ≠ a) : upd σ a o b = σ b := if_neg h
theorem wpF_in {P : Prg} {d : Nat} {fi : FnI} (h : P.fns[f]? = some fi) (hl : vs.length = fi.arity) (hb : fi.body (wpF P d) (vs.map some ++ List.replicate (fi.nloc - fi.arity) Option.none) σ (kFn Q) (eFn E)) : wpF P (d + 1) f vs σ Q E := ⟨fi, h, hl, hb⟩
theorem e_lookV : lookV Q σ (some v) = Q v σ := rfl
theorem e_var : vVar n ρ σ Q E = lookV Q σ (getL ρ n) := rfl
theorem e_c : vC v ρ σ Q E = Q v σ := rfl
theorem e_nil : lNil ρ σ RL E = RL [] σ := rfl
theorem e_cons : lCons e es ρ σ RL E = e ρ σ (kEs1 es ρ RL E) E := rfl
theorem e_kEs1 : kEs1 es ρ RL E v σ = es ρ σ (kEs2 v RL) E := rfl
theorem e_kEs2 : kEs2 v RL vs σ = RL (v :: vs) σ := rfl
theorem e_tup : vTup es ρ σ Q E = es ρ σ (kTup Q) E := rfl
theorem e_kTup : kTup Q vs σ = Q (.tup vs) σ := rfl
theorem e_lst : vLst z es ρ σ Q E = es ρ σ (kLst z Q) E := rfl
theorem e_kLst : kLst false Q vs σ = Q (.ilist vs) σ := rfl
theorem e_o2 : vO2 o a b ρ σ Q E = a ρ σ (kO1 o b ρ Q E) E := rfl
theorem e_kO1 : kO1 o b ρ Q E v σ = b ρ σ (kO2 o v Q) E := rfl
theorem e_kO2 : kO2 o u Q v σ = o u v σ Q := rfl
theorem e_o1 : vO1 p a ρ σ Q E = a ρ σ (kU p Q) E := rfl
theorem e_kU : kU p Q v σ = p v σ Q := rfl
theorem e_oN : vON g es ρ σ Q E = es ρ σ (kN g Q) E := rfl
theorem e_kN : kN g Q vs σ = g vs σ Q := rfl
theorem e_neg : oNeg (.int i) σ Q = Q (.int (-i)) σ := rfl
theorem e_not : oNot (.bool z) σ Q = Q (.bool (!z)) σ := rfl
theorem e_bl : vBl r ρ σ Q E = r ρ σ (kBool Q) E := rfl
theorem e_kBool : kBool Q z σ = Q (.bool z) σ := rfl
theorem e_blNil : blNil z ρ σ RB E = RB z σ := rfl
theorem e_blCons : blCons z e r ρ σ RB E = e ρ σ (onT (kBl z r ρ RB E)) E := rfl
theorem e_onT : onT RB (.bool z) σ = RB z σ := rfl
theorem e_kBl : kBl z r ρ RB E w σ = brBl r ρ RB E w (w == z) σ := rfl
theorem e_brBl1 : brBl r ρ RB E z true σ = r ρ σ RB E := rfl
theorem e_brBl0 : brBl r ρ RB E z false σ = RB z σ := rfl
theorem e_brBlN : brBl (blNil true) ρ RB E z z σ = RB z σ := by cases z <;> rfl
theorem e_cmp : vCmp a cc ρ σ Q E = a ρ σ (kCmp cc ρ Q E) E := rfl
theorem e_kCmp : kCmp cc ρ Q E v σ = cc v ρ σ (kBool Q) E := rfl
theorem e_cNil : cNil v ρ σ RB E = RB true σ := rfl
theorem e_cCons : cCons k e cc v ρ σ RB E = e ρ σ (kCh1 v k cc ρ RB E) E := rfl
theorem e_kCh1 : kCh1 v k cc ρ RB E u σ = k v u σ (kCh2 u cc ρ RB E σ) := rfl
theorem e_kCh2n : kCh2 u cNil ρ RB E σ z = RB z σ := by cases z <;> rfl
theorem e_kCh20 : kCh2 u cc ρ RB E σ false = RB false σ := rfl
theorem e_kCh21 : kCh2 u cc ρ RB E σ true = cc u ρ σ RB E := rfl
theorem e_call : vCall F f es ρ σ Q E = es ρ σ (kCall F f Q E) E := rfl
theorem e_kCall : kCall F f Q E vs σ = F f vs σ Q E := rfl
theorem e_new : vNew F n f es ρ σ Q E = es ρ σ (kNew F n f Q E) E := rfl
theorem e_kNew : kNew F n f Q E vs σ = ∀ a, σ a = Option.none → F f (.obj a :: vs) (upd σ a (.inst n [])) (kInit a Q) E := rfl
theorem e_kInit : kInit n Q .none σ = Q (.obj n) σ := rfl
theorem e_meth : vMeth F n m f e es ρ σ Q E = e ρ σ (kMeth F n m f es ρ Q E) E := rfl
theorem e_kMeth2 : kMeth2 F f n Q E vs σ = F f (.obj n :: vs) σ Q E := rfl
theorem s_assign : sAssign n e ρ σ QQ EE = e ρ σ (kAsg n ρ QQ) (kE EE ρ) := rfl
theorem s_kAsg : kAsg n ρ QQ v σ = QQ .next (setL ρ n v) σ := rfl
theorem s_kE : kE EE ρ n σ = EE n ρ σ := rfl
theorem s_setAttr : sSetAttr a n f e ρ σ QQ EE = e ρ σ (kSA1 a n f ρ QQ EE) (kE EE ρ) := rfl
theorem s_kSA1 : kSA1 a n f ρ QQ EE v σ = a ρ σ (kSA2 n f v ρ QQ) (kE EE ρ) := rfl
theorem s_expr : sExpr e ρ σ QQ EE = e ρ σ (kExp ρ QQ) (kE EE ρ) := rfl
theorem s_kExp : kExp ρ QQ v σ = QQ .next ρ σ := rfl
theorem s_ret : sRet e ρ σ QQ EE = e ρ σ (kRet ρ QQ) (kE EE ρ) := rfl
theorem s_kRet : kRet ρ QQ v σ = QQ (.ret v) ρ σ := rfl
theorem s_ite : sIte c A B ρ σ QQ EE = c ρ σ (onT (brS A B ρ QQ EE)) (kE EE ρ) := rfl
theorem s_brS1 : brS A B ρ QQ EE true σ = A ρ σ QQ EE := rfl
theorem s_brS0 : brS A B ρ QQ EE false σ = B ρ σ QQ EE := rfl
theorem s_rais : sRais n ρ σ QQ EE = EE n ρ σ := rfl
theorem s_try : sTry A H ρ σ QQ EE = A ρ σ QQ (kTry H QQ EE) := rfl
theorem s_kTry : kTry H QQ EE n ρ σ = H n ρ σ QQ EE := rfl
theorem s_brH1 : brH n m A H ρ σ QQ EE true = A (setL ρ m (.exn n)) σ (kH QQ) eNoS := rfl
theorem s_kH : kH QQ (.ret v) ρ σ = QQ (.ret v) [] σ := rfl
theorem s_for : sFor n e A ρ σ QQ EE = e ρ σ (kFor n A ρ QQ EE) (kE EE ρ) := rfl
theorem s_bOne : bOne n A EE v ρ σ QQ = A (setL ρ n v) σ QQ EE := rfl
theorem b_nil : bNil ρ σ QQ EE = QQ .next ρ σ := rfl
theorem b_cons : bCons A B ρ σ QQ EE = A ρ σ (kSeq B QQ EE) EE := rfl
theorem b_kSeqN : kSeq A QQ EE .next ρ σ = A ρ σ QQ EE := rfl
theorem b_kSeqR : kSeq A QQ EE (.ret v) ρ σ = QQ (.ret v) ρ σ := rfl
theorem f_kFnN : kFn Q .next ρ σ = Q .none σ := rfl
theorem f_kFnR : kFn Q (.ret v) ρ σ = Q v σ := rfl
theorem f_eFn : eFn E n ρ σ = E n σ := rfl
theorem l_nil {G : St → Prop} {B : AV → Loc → St → QS → Prop} : forL G B [] ρ σ QQ = (G σ ∧ QQ .next ρ σ) := rfl
theorem l_cons {G : St → Prop} {B : AV → Loc → St → QS → Prop} : forL G B (v :: vs) ρ σ QQ = (G σ ∧ B v ρ σ (kFL (forL G B vs) QQ)) := rfl
theorem l_kFLN {go : Loc → St → QS → Prop} : kFL go QQ .next ρ σ = go ρ σ QQ := rfl
theorem d_set0 {a : Option AV} {r : Loc} : setL (a :: r) 0 v = some v :: r := rfl
theorem d_setS {a : Option AV} {r : Loc} : setL (a :: r) (n + 1) v = a :: setL r n v := rfl
theorem d_get0 {a : Option AV} {r : Loc} : getL (a :: r) 0 = a := rfl
theorem d_getS {a : Option AV} {r : Loc} : getL (a :: r) (n + 1) = getL r n := rfl
theorem d_bt : (z == true) = z := by cases z <;> rfl
theorem d_bf : (z == false) = !z := by cases z <;> rfl
theorem d_nt : (!true) = false := rfl
theorem d_nf : (!false) = true := rfl
theorem d_gi : guardOf (.ilist xs) ys σ = True := rfl
theorem o_add : oAdd (.int x) (.int y) σ Q = Q (.int (x + y)) σ := rfl
theorem o_sub : oSub (.int x) (.int y) σ Q = Q (.int (x - y)) σ := rfl
theorem o_mul : oMul (.int x) (.int y) σ Q = ((x.natAbs < 2 ^ 63 ∨ y.natAbs < 2 ^ 63) ∧ Q (.int (x * y)) σ) := rfl
theorem o_mod : oMod (.int x) (.int y) σ Q = (y ≠ 0 ∧ Q (.int (x.fmod y)) σ) := rfl
theorem o_fdiv : oFdiv (.int x) (.int y) σ Q = ((y ≠ 0 ∧ y.natAbs < 1073741824) ∧ Q (.int (x.fdiv y)) σ) := rfl
theorem o_addS : oAddS (.str s) (.str t) σ Q = (s.length + t.length ≤ 1000000 ∧ Q (.str (s ++ t)) σ) := rfl
theorem o_mulS : oMulS (.str s) (.int i) σ Q = ((0 ≤ i ∧ i ≤ 1000 ∧ s.length ≤ 1000) ∧ Q (.str (Txt.mul s i)) σ) := rfl
theorem o_idxT : oIdxT (.tup xs) (.int i) σ Q = (0 ≤ i ∧ lookV Q σ xs[i.toNat]?) := rfl
theorem i_l : oIdxL (.ilist xs) (.int i) σ Q = (0 ≤ i ∧ lookV Q σ xs[i.toNat]?) := rfl
theorem o_sl : oSl false n m (.ilist xs) σ Q = Q (.ilist ((xs.take m).drop n)) σ := rfl
theorem c_lt : cLt (.int x) (.int y) σ K = K (decide (x < y)) := rfl
theorem c_le : cLe (.int x) (.int y) σ K = K (decide (x ≤ y)) := rfl
theorem c_ge : cGe (.int x) (.int y) σ K = K (decide (x ≥ y)) := rfl
theorem x_eq {p q : PyData} (h1 : rd 8 σ u = some p) (h2 : rd 8 σ v = some q) : cEq u v σ K = K (PyData.eqv p q) := propext ⟨fun ⟨p', q', e1, e2, h⟩ => by rw [h1] at e1; rw [h2] at e2; cases e1; cases e2; exact h, fun h => ⟨_, _, h1, h2, h⟩⟩
theorem x_ne {p q : PyData} (h1 : rd 8 σ u = some p) (h2 : rd 8 σ v = some q) : cNe u v σ K = K (!PyData.eqv p q) := propext ⟨fun ⟨p', q', e1, e2, h⟩ => by rw [h1] at e1; rw [h2] at e2; cases e1; cases e2; exact h, fun h => ⟨_, _, h1, h2, h⟩⟩
theorem c_eqI : cEq (.int x) (.int y) σ K = K (x == y) := x_eq (p := .int x) (q := .int y) rfl rfl
theorem x_len : oLen [.ilist xs] σ Q = Q (.int xs.length) σ := propext ⟨fun ⟨_, e, h⟩ => by cases e; exact h, fun h => ⟨_, rfl, h⟩⟩
theorem x_max2 : oMax2 [.int x, .int y] σ Q = Q (.int (if y > x then y else x)) σ := propext ⟨fun ⟨_, _, e, h⟩ => by cases e; exact h, fun h => ⟨_, _, rfl, h⟩⟩
theorem x_intB : oIntB [.bool z] σ Q = Q (.int (if z then 1 else 0)) σ := propext ⟨fun ⟨_, e, h⟩ => by cases e; exact h, fun h => ⟨_, rfl, h⟩⟩
theorem x_isi {t : Ty} (h : plainV v = true) : oIsi t v σ Q = Q (.bool (isTy t v)) σ := propext ⟨fun h => h.2, fun q => ⟨h, q⟩⟩
theorem x_isiV : oIsiV (.exn n) σ Q = Q (.bool true) σ := propext ⟨fun ⟨_, _, h⟩ => h, fun h => ⟨_, rfl, h⟩⟩
theorem x_isiX {cs : List ClsI} {ci : ClsI} (h : cs[n]? = some ci) : oIsiX cs m (.exn n) σ Q = Q (.bool (ci.sups.contains m)) σ := propext ⟨fun ⟨_, _, e1, e2, q⟩ => by cases e1; rw [h] at e2; cases e2; exact q, fun q => ⟨_, _, rfl, h, q⟩⟩
theorem x_hCons {cs : List ClsI} {ci : ClsI} {d : Nat} (h : cs[n]? = some ci) : hCons cs d m A H n ρ σ QQ EE = brH n m A H ρ σ QQ EE (ci.sups.contains d) := propext ⟨fun ⟨_, e, q⟩ => by rw [h] at e; cases e; exact q, fun q => ⟨_, h, q⟩⟩
theorem x_for : kFor n A ρ QQ EE (.ilist xs) σ = forL (guardOf (.ilist xs) xs) (bOne n A EE) xs ρ σ QQ := propext ⟨fun ⟨_, e, q⟩ => by cases e; exact q, fun q => ⟨_, rfl, q⟩⟩
theorem x_meth {fs : List (Nat × AV)} {a c : Nat} (h : σ a = some (.inst c fs)) (h' : lookF fs m = Option.none) : kMeth F c m f es ρ Q E (.obj a) σ = es ρ σ (kMeth2 F f a Q E) E := propext ⟨fun ⟨_, _, e, _, _, q⟩ => by cases e; exact q, fun q => ⟨_, _, rfl, h, h', q⟩⟩
theorem x_attr {fs : List (Nat × AV)} {a c : Nat} (h : σ a = some (.inst c fs)) (h' : lookF fs f = some v) : oAttr c f (.obj a) σ Q = Q v σ := propext ⟨fun ⟨_, _, _, e, e1, e2, q⟩ => by cases e; rw [h] at e1; cases e1; rw [h'] at e2; cases e2; exact q, fun q => ⟨_, _, _, rfl, h, h', q⟩⟩
theorem x_setA {fs : List (Nat × AV)} {a c : Nat} (h : σ a = some (.inst c fs)) (h' : fs.length < 100) : kSA2 c f v ρ QQ (.obj a) σ = QQ .next ρ (upd σ a (.inst c (putF f v fs))) := propext ⟨fun ⟨_, _, e, e1, _, q⟩ => by cases e; rw [h] at e1; cases e1; exact q, fun q => ⟨_, _, rfl, h, h', q⟩⟩
end
end Ap
end
section
set_option Elab.async false
set_option genSizeOf false
set_option linter.unusedVariables false
set_option linter.unusedSimpArgs false
set_option linter.unusedSectionVars false
namespace Ap
open PySem PySem.Calls PyProof.Rows
abbrev OM := AV → List AV → St → PQ → Prop
def kBm2 (f : OM) (v : AV) (Q : PQ) : List AV → St → Prop := fun vs σ => f v vs σ Q
def kBm (rc : AV → St → Prop) (f : OM) (es : WL) (ρ : Loc) (Q : PQ) (E : PE) : PQ := fun v σ => rc v σ ∧ es ρ σ (kBm2 f v Q) E
def vBm (rc : AV → St → Prop) (f : OM) (e : WE) (es : WL) : WE := fun ρ σ Q E => e ρ σ (kBm rc f es ρ Q E) E
structure BmOk (C : Cx) (q : Bool) (name : Str) (rc : AV → St → Prop) (f : OM) : Prop where
  ex : ∃ T id, (PlainAttrs T ∧ Slot T name id ∧ typeOf (.builtin id) = pure (.type "method_descriptor")) ∧
    (∀ envs σ ow s v u, Good C envs σ ow s → VR C (Zs σ ow (zss envs)) s.heap v u → rc v σ → s.TypeIs u T ∧ ∀ a, u = .ref a → ∃ ob, s.heap.get? a = some ob ∧ ob.dict = Option.none) ∧
    ∀ (A : Around) envs σ ow s (Qa : PQ) (Q : Value → Shared → Prop) E v u vs vals, (q = false → A.handled = Option.none) → Good C envs σ ow s → KV C envs σ ow s (RV C) Qa Q → VR C (Zs σ ow (zss envs)) s.heap v u → VRs C (Zs σ ow (zss envs)) s.heap vs vals → f v vs σ Qa → wpAny (model C.prog C.w) A (call (.builtin id) (u :: vals)) Q E s
section
variable {C : Cx} {T : Tabs} {P : Prg} {d : Nat} {sc : Scope} {nms : List Str} {q : Bool}
theorem Both.bm {q' : Bool} {rc : AV → St → Prop} {f : OM} {n : Str} {e : WE} {o : Expr} {es : WL} {xs : List Expr} {apos pos : Pos} (hb : BmOk C q' n rc f) (he : Both C d sc nms q e o) (h : BothL C d sc nms q es xs) (hp : plainBase o = true)
    (hline : (apos.endLine == pos.line) = true) (hlen : xs.length < 20) (hq : q' = false → q = false) : Both C d sc nms q (vBm rc f e es) (.Call (.Attribute o n apos) xs [] pos) :=
  .of rfl fun A env envs ρ hs ha σ ow s Qa Ea Q E w ok kv kx => by
    obtain ⟨T, id, ⟨pa, sl, ty⟩, h1, h2⟩ := hb.ex
    refine wpAny_Call_method (base_plain hp) ?_ hline pa sl ty (he.ev A env envs ρ hs ha σ ow s _ Ea _ E w ok (fun u v σ' ow' s' z st g r => ?_) kx)
    · rw [starEach_all h.stars]
      show (true && true && decide (xs.length + 0 + 0 < 30)) = true
      rw [Bool.and_self, Bool.true_and, decide_eq_true_eq]
      omega
    · obtain ⟨t1, t2⟩ := h1 envs σ' ow' s' v u g r z.1
      refine ⟨t1, t2, callWith_builtin (starEach_any h.stars) (evalArgs_any h.stars (h.snd hs ha σ' ow' s' _ Ea _ E z.2 (ok.stp st g) (fun vs avs σ'' ow'' s'' z' st' g' r' => ?_) (kx.stp st g)))⟩
      refine h2 A envs σ'' ow'' s'' _ _ _ _ _ _ _ (fun e => ?_) g' ((kv.stp st).stp st') (st'.vr r) r'.1 z'
      have := hq e
      subst this
      exact ok.hnd.none
def rcL : AV → St → Prop := fun v σ => ∃ a xs, v = .obj a ∧ σ a = some (.list xs)
def oAppend : OM := fun v vs σ Q => ∃ a xs x, v = .obj a ∧ vs = [x] ∧ σ a = some (.list xs) ∧ xs.length ≤ 1000000 ∧ Q .none (upd σ a (.list (xs ++ [x])))
theorem bm_append : BmOk C true (Str.ofString "append") rcL oAppend := by
  refine ⟨⟨"list", "list.append", ⟨F.plainAttrs_list, slot_list_append, type_list_append⟩, fun envs σ ow s v u g r w => ?_, fun A envs σ ow s Qa Q E v u vs vals hq g k r rs w => ?_⟩⟩
  · obtain ⟨a, xs, rfl, e⟩ := w
    cases r
    obtain ⟨us, ⟨_, n, e1⟩, _⟩ := g.store _ _ e
    exact ⟨⟨_, e1, rfl⟩, fun b hb => by cases hb; exact ⟨_, e1, rfl⟩⟩
  · obtain ⟨a, xs, x, rfl, rfl, e, hl, w⟩ := w
    cases r
    cases rs with | cons r1 r2 =>
    cases r2
    obtain ⟨us, ⟨hz, n, e1⟩, r⟩ := g.store _ _ e
    have hlen := r.length
    refine append_at (hsz := by rw [List.size_toArray]; unfold sizeLine; omega) e1 fun h' hs hD => ?_
    have kp : ∀ b ob, b ≠ a → s.heap.get? b = some ob → h'.get? b = some ob := fun b ob nb e => (hs.2 b nb).trans e
    have st := Stp.change (o := .list (xs ++ [x])) g e (.inl rfl) kp s.toks
    rename_i y
    have hD' : h'.get? a = some (lstO (us ++ [y]) (n + 1)) := by rw [hD]; simp
    exact k _ _ _ ow _ w st (g.change (o := .list (xs ++ [x])) e (.inl rfl) kp (by rw [hD']; rfl) ⟨us ++ [y], ⟨by rw [List.length_append]; simp; omega, _, hD'⟩, VRs.append (.cons (st.vr r1) .nil) (st.vrs r)⟩ s.toks) .none
variable {κ : Type} [DecidableEq κ] {Z : Nat → Prop} {h : Heap}
inductive DP (C : Cx) (Z : Nat → Prop) (h : Heap) {κ : Type} : List (κ × AV) → List (κ × Value) → Prop
  | nil : DP C Z h [] []
  | cons {k : κ} {v : AV} {u : Value} {es : List (κ × AV)} {kvs : List (κ × Value)} : VR C Z h v u → DP C Z h es kvs → DP C Z h ((k, v) :: es) ((k, u) :: kvs)
theorem DP.keys {es : List (κ × AV)} {kvs : List (κ × Value)} (x : DP C Z h es kvs) : kvs.map (·.1) = es.map (·.1) := by
  induction x with
  | nil => rfl
  | cons _ _ ih => simp [ih]
theorem DP.vals {es : List (κ × AV)} {kvs : List (κ × Value)} (x : DP C Z h es kvs) : VRs C Z h (es.map (·.2)) (kvs.map (·.2)) := by
  induction x with
  | nil => exact .nil
  | cons r _ ih => exact .cons r ih
theorem DP.length {es : List (κ × AV)} {kvs : List (κ × Value)} (x : DP C Z h es kvs) : kvs.length = es.length := by
  induction x with
  | nil => rfl
  | cons r _ ih => exact congrArg Nat.succ ih
theorem DP.any {es : List (κ × AV)} {kvs : List (κ × Value)} (x : DP C Z h es kvs) (k : κ) : kvs.any (fun kv => kv.1 = k) = es.any (fun kv => kv.1 = k) := by
  induction x with
  | nil => rfl
  | cons _ _ ih => simp only [List.any_cons, ih]
theorem DP.map {es : List (κ × AV)} {kvs : List (κ × Value)} (x : DP C Z h es kvs) (k : κ) {v : AV} {u : Value} (r : VR C Z h v u) : DP C Z h (es.map (fun e => if e.1 = k then (e.1, v) else e)) (kvs.map (fun e => if e.1 = k then (e.1, u) else e)) := by
  induction x with
  | nil => exact .nil
  | @cons k' v' u' es kvs r' _ ih =>
    by_cases q : k' = k
    · subst q; simpa using DP.cons r ih
    · simpa [q] using DP.cons r' ih
theorem DP.snoc {es : List (κ × AV)} {kvs : List (κ × Value)} (x : DP C Z h es kvs) (k : κ) {v : AV} {u : Value} (r : VR C Z h v u) : DP C Z h (es ++ [(k, v)]) (kvs ++ [(k, u)]) := by
  induction x with
  | nil => exact .cons r .nil
  | cons r' _ ih => exact .cons r' ih
theorem DP.put {es : List (κ × AV)} {kvs : List (κ × Value)} (x : DP C Z h es kvs) (k : κ) {v : AV} {u : Value} (r : VR C Z h v u) : DP C Z h (putF k v es) (stored kvs k u) := by
  unfold putF stored
  rw [x.any k]
  split
  · exact x.map k r
  · exact x.snoc k r
theorem DP.kp {Z' : Nat → Prop} {h' : Heap} (k : Kp Z h h') (g : Zg Z Z' h) {es : List (κ × AV)} {kvs : List (κ × Value)} (x : DP C Z h es kvs) : DP C Z' h' es kvs := by
  induction x with
  | nil => exact .nil
  | cons r _ ih => exact .cons (r.kp k g) ih
structure DK (C : Cx) (κ : Type) [DecidableEq κ] where
  knd : KeyKind C.prog C.w κ
  key : κ → AV
  ob : List (κ × AV) → AObj
  is : ∀ {Z h k u}, VR C Z h (key k) u → knd.is k u = true
  part : ∀ {Z h k u}, VR C Z h (key k) u → (keyPart u).isSome = true
  get : ∀ {Z ow h a es}, ORep C Z ow h a (ob es) → ∃ kvs, h.DictOf knd a kvs ∧ (a == sysModules) = false ∧ kvs.map (·.1) = es.map (·.1) ∧ VRs C Z h (es.map (·.2)) (kvs.map (·.2))
  put : ∀ {Z ow h a es kvs}, h.DictOf knd a kvs → (a == sysModules) = false → DP C Z h es kvs → ORep C Z ow h a (ob es)
noncomputable def dkS (C : Cx) : DK C Str where
  knd := strKind C.prog C.w
  key := .str
  ob := .dictS
  is := fun r => by cases r; exact strKind_is _ _ _ _
  part := fun r => by cases r; rfl
  get := fun r => r
  put := fun a b c => ⟨_, a, b, c.keys, c.vals⟩
end
end Ap
end
section
set_option Elab.async false
set_option genSizeOf false
set_option linter.unusedVariables false
set_option linter.unusedSimpArgs false
set_option linter.unusedSectionVars false
namespace Ap
open PySem PySem.Calls PyProof.Rows
abbrev WX := Loc → St → (List AV → (St → Prop) → St → Prop) → PE → Prop
def kXL (K : List AV → (St → Prop) → St → Prop) : PQ := fun v σ => ∃ xs, seqOf σ v = some xs ∧ K xs (guardOf v xs) σ
def xList (e : WE) : WX := fun ρ σ K E => e ρ σ (kXL K) E
def rngOf : List AV → Option (Int × Int)
  | [.int b] => some (0, b)
  | [.int a, .int b] => some (a, b)
  | _ => Option.none
def rangeL (a b : Int) : List AV := (List.range (b - a).toNat).map fun (k : Nat) => .int (a + k)
def kXR (K : List AV → (St → Prop) → St → Prop) : List AV → St → Prop := fun vs σ => ∃ a b, rngOf vs = some (a, b) ∧ (a.natAbs < 2 ^ 60 ∧ b.natAbs < 2 ^ 60 ∧ b - a ≤ 1000000) ∧ K (rangeL a b) (fun _ => True) σ
def xRange (es : WL) : WX := fun ρ σ K E => es ρ σ (kXR K) E
def kForX (x : Nat) (body : WS) (ρ : Loc) (Q : QS) (E : ES) : List AV → (St → Prop) → St → Prop := fun xs G σ => forL G (bOne x body E) xs ρ σ Q
def sForX (x : Nat) (src : WX) (body : WS) : WS := fun ρ σ Q E => src ρ σ (kForX x body ρ Q E) (kE E ρ)
structure SrcI (C : Cx) (A : Around) (q : Bool) (target : Expr) (I : Addr) (wr : List Addr) (xs : List AV) (G : St → Prop) (inv : Vo → Nat → St → (Nat → Option Nat) → Shared → Prop) : Prop where
  it : ∀ V, It C A q target V I wr xs G (inv V)
  wide : ∀ V ex i σ ow s h' t, inv V i σ ow s → (∀ b ∈ ex, s.heap.get? b = Option.none) → (∀ b o, s.heap.get? b = some o → h'.get? b = some o) → inv (V.plus ex) i σ ow { s with heap := h', toks := t }
structure SrcE (C : Cx) (d : Nat) (sc : Scope) (nms : List Str) (q : Bool) (target iter : Expr) (w : WX) : Prop where
  snd : ∀ A env V ρ, env.scope = sc → AOk A V d → ∀ σ ow s K Ea (Q : Value → Shared → Prop) E, w ρ σ K Ea → Ok C A q env V nms ρ σ ow s → KX C V σ ow s Ea E →
    (∀ I wr xs G inv σ' ow' s', K xs G σ' → SrcI C A q target I wr xs G inv → Stp (frs V) (Own σ ow) (Own σ' ow') s s' → Ok C A q env (V.plus wr) nms ρ σ' ow' s' → inv V 0 σ' ow' s' → (∀ b ∈ wr, s.heap.get? b = Option.none) → xs.length ≤ 16777216 → Q (.ref I) s') →
    wpAny (model C.prog C.w) A (eval iter env) (fun x s₁ => wpAny (model C.prog C.w) A (pyIter x) Q E s₁) E s
section
variable {C : Cx} {T : Tabs} {P : Prg} {d : Nat} {sc : Scope} {nms : List Str} {q : Bool} {A : Around} {V : Vo} {σ σ' : St} {ow ow' : Nat → Option Nat} {s s' : Shared}
theorem plus2_zg {ex wr : List Addr} {h : Heap} (fr : ∀ b ∈ ex, h.get? b = Option.none) : Zg (Zs σ ow (zss (V.plus wr))) (Zs σ ow (zss ((V.plus ex).plus wr))) h := fun b z => by
  rcases z with z | z
  · exact .inl (.inl z)
  · rcases Vo.plus_mem z with z | z
    · rcases Vo.plus_mem z with z | z
      · exact .inl (.inr (Vo.plus_sub b z))
      · exact .inr (fr b z)
    · exact .inl (.inr (Vo.plus_wr z))
theorem SrcI.ilist {target : Expr} {I ax : Addr} {vs : List Value} {xs : List AV} {G : St → Prop} : SrcI C A q target I [I] xs G (fun V => invI C V I ax vs xs) where
  it := fun V => It.ilist
  wide := fun V ex i σ ow s h' t h fr gr => by
    obtain ⟨⟨o, e1, e2, e3⟩, ⟨hz, n, e4⟩, r, nz⟩ := h
    have zg := plus2_zg (V := V) (wr := [I]) (σ := σ) (ow := ow) fr
    exact ⟨⟨o, gr _ _ e1, e2, e3⟩, ⟨hz, n, gr _ _ e4⟩, r.kp (fun b o e _ => gr b o e) zg, zg.not e4 nz⟩
theorem SrcI.own {target : Expr} {I a : Addr} {xs : List AV} : SrcI C A q target I [I] xs (fun σ => σ a = some (.list xs)) (fun _ i σ ow s => s.heap.IsListIter I a i) where
  it := fun V => It.own
  wide := fun V ex i σ ow s h' t h fr gr => by
    obtain ⟨o, e1, e2, e3⟩ := h
    exact ⟨o, gr _ _ e1, e2, e3⟩
theorem SrcE.list {e : WE} {v target : Expr} (he : Both C d sc nms q e v) : SrcE C d sc nms q target v (xList e) where
  snd := fun A env V ρ hs ha σ ow s K Ea Q E w ok kx h => by
    refine he.ev A env V ρ hs ha σ ow s _ _ _ E w ok (fun u av σ' ow' s' z st g r => ?_) kx
    obtain ⟨items, hseq, z⟩ := z
    obtain ⟨l, vs, rfl, li, rr, hc⟩ := seqOf_isL g r hseq
    have hz := li.1
    obtain ⟨hh, gg, dd, tt, oo⟩ := s'
    refine iter_list li fun h' gr it => ?_
    have fr : ∀ b ∈ [hh.objs.size], hh.get? b = Option.none ∧ ∃ o, h'.get? b = some o := fun b m => by
      rw [List.mem_singleton.mp m]
      obtain ⟨o, e, _⟩ := it
      exact ⟨Heap.fresh _, o, e⟩
    have ko := (ok.stp st g).open_ (h' := h') (t := tt) (wr := [hh.objs.size]) gr fr
    have st' := st.trans (Stp.ext (s := ⟨hh, gg, dd, tt, oo⟩) (O := Own σ' ow') gr tt)
    have fr0 : ∀ b ∈ [hh.objs.size], s.heap.get? b = Option.none := fun b m => st.back rfl g b (fr b m).1
    have hlen : items.length ≤ 16777216 := by rw [rr.length]; exact hz
    rcases hc with ⟨rfl, off⟩ | ⟨rfl, hst⟩
    · have zg : Zg (Zs σ' ow' (zss V)) (Zs σ' ow' (zss (V.plus [hh.objs.size]))) hh := fun b y => by
        rcases y with y | y
        · exact .inl (.inl y)
        · rcases Vo.plus_mem y with y | y
          · exact .inl (.inr y)
          · exact .inr (fr b y).1
      obtain ⟨y1, m, y2⟩ := li
      exact h _ _ _ _ _ σ' ow' _ z (SrcI.ilist (ax := l) (vs := vs)) st' ko ⟨it, ⟨y1, m, gr _ _ y2⟩, rr.kp (fun b o e _ => gr b o e) zg, zg.not y2 off⟩ fr0 hlen
    · exact h _ _ _ _ _ σ' ow' _ z SrcI.own st' ko it fr0 hlen
def invW (C : Cx) (fp wr : List Addr) (P : Nat → Value → Prop) (S : Nat → Heap → Prop) (xs : List AV) (V : Vo) (i : Nat) (σ : St) (ow : Nat → Option Nat) (s : Shared) : Prop :=
  S i s.heap ∧ (∀ b ∈ fp, b ∈ wr ∨ (¬ Zs σ ow (zss (V.plus wr)) b ∧ ∃ o, s.heap.get? b = some o)) ∧ ∀ j x v, xs[j]? = some x → P j v → VR C (Zs σ ow (zss (V.plus wr))) s.heap x v
theorem It.ofW {I : Addr} {fp wr : List Addr} {m : Nat} {P : Nat → Value → Prop} {S : Nat → Heap → Prop} {xs : List AV} {n : Str} {np : Pos} (W : Walks C.prog C.w A I fp wr m P S) (hm : m = xs.length) (lv : ∀ i h, S i h → ∀ b ∈ wr, ∃ o, h.get? b = some o) {G : St → Prop} :
    It C A q (.Name n np) V I wr xs G (invW C fp wr P S xs V) where
  step := fun X i σ ow s σ' ow' s' h g x g' _ => by
    obtain ⟨h1, h2, h3⟩ := h
    refine ⟨W.frame i _ _ h1 fun b hb o e => ?_, fun b hb => ?_, fun j y v hj hp => SStp.vr (envs := V.plus wr) x (h3 j y v hj hp)⟩
    · rcases h2 b hb with m | ⟨nz, _⟩
      · exact it_keep g m x e
      · exact x.keep b o e (fun z => nz (.inl z)) fun z => nz (.inr ((V.plus wr).sub b z))
    · rcases h2 b hb with m | ⟨nz, o, e⟩
      · exact .inl m
      · exact .inr ⟨(x.zg (zs := zss (V.plus wr))).not e nz, o, x.keep b o e (fun z => nz (.inl z)) fun z => nz (.inr ((V.plus wr).sub b z))⟩
  next := fun i y σ ow s Q E hy h g _ K => by
    obtain ⟨h1, h2, h3⟩ := h
    have hi : i < m := by rw [hm]; exact (List.getElem?_eq_some_iff.mp hy).1
    refine W.item i s _ E hi h1 fun v h' tk hP hS hk => ?_
    have hK : Kp (Zs σ ow (zss (V.plus wr))) s.heap h' := fun b o e nb => hk b o (fun m => nb (.inr (Vo.plus_wr m))) e
    refine wpAny_pure (K v h' tk ((h3 i y v hy hP).kp hK (Zg.refl _ _)) ⟨hS, fun b hb => ?_, fun j z u hj hp => (h3 j z u hj hp).kp hK (Zg.refl _ _)⟩ hk (lv _ _ hS))
    rcases h2 b hb with m | ⟨nz, o, e⟩
    · exact .inl m
    · exact .inr ⟨nz, o, hK b o e nz⟩
  done := fun σ ow s Q E h g hh _ K => by
    rw [← hm] at h
    exact W.done s _ E h.1 fun h' tk hk => K h' tk hk
  move := fun i σ ow s h' tk h g k => by
    obtain ⟨h1, h2, h3⟩ := h
    have hK : Kp (Zs σ ow (zss (V.plus wr))) s.heap h' := fun b o e nb => k b o (fun m => absurd (.inr (Vo.plus_sub b (List.mem_append_right _ m))) nb) e
    refine ⟨W.frame i _ _ h1 fun b hb o e => ?_, fun b hb => ?_, fun j z u hj hp => (h3 j z u hj hp).kp hK (Zg.refl _ _)⟩
    · rcases h2 b hb with m | ⟨nz, _⟩
      · exact k b o (fun _ => m) e
      · exact hK b o e nz
    · rcases h2 b hb with m | ⟨nz, o, e⟩
      · exact .inl m
      · exact .inr ⟨nz, o, hK b o e nz⟩
  self := fun i σ ow s Q E h g K => W.self i s Q E h.1 K
theorem SrcI.ofW {I : Addr} {fp wr : List Addr} {m : Nat} {P : Nat → Value → Prop} {S : Nat → Heap → Prop} {xs : List AV} {n : Str} {np : Pos} (W : Walks C.prog C.w A I fp wr m P S) (hm : m = xs.length) (lv : ∀ i h, S i h → ∀ b ∈ wr, ∃ o, h.get? b = some o) {G : St → Prop} :
    SrcI C A q (.Name n np) I wr xs G (invW C fp wr P S xs) where
  it := fun V => It.ofW W hm lv
  wide := fun V ex i σ ow s h' t h fr gr => by
    obtain ⟨h1, h2, h3⟩ := h
    have zg := plus2_zg (V := V) (wr := wr) (σ := σ) (ow := ow) fr
    refine ⟨W.frame i _ _ h1 fun b _ o e => gr b o e, fun b hb => ?_, fun j y v hj hp => (h3 j y v hj hp).kp (fun b o e _ => gr b o e) zg⟩
    rcases h2 b hb with m | ⟨nz, o, e⟩
    · exact .inl m
    · exact .inr ⟨zg.not e nz, o, gr b o e⟩
theorem small_of {a b : Int} (h1 : a.natAbs < 2 ^ 60) (h2 : b.natAbs < 2 ^ 60) : Builtin.Range.small a b 1 = true ∧ Builtin.Range.rangeSize a b 1 = (((b - a).toNat : Nat) : Int) := by
  have e : Builtin.Range.rangeSize a b 1 = (((b - a).toNat : Nat) : Int) := by rw [rangeSize_one]; split <;> omega
  refine ⟨?_, e⟩
  unfold Builtin.Range.small
  rw [e]
  simp only [Builtin.Range.rangeFitsLong, show ((1 : Int) > 0) = True by simp, if_true]
  simp
  omega
theorem range_lv {a c : Int} {n : Nat} {I : Addr} : ∀ (i : Nat) (h : Heap), IsRangeIter h I (a + (i : Nat) * c) ((n : Int) - (i : Nat)) c → ∀ b ∈ [I], ∃ o, h.get? b = some o := fun i h e b hb => by
  rw [List.mem_singleton.mp hb]
  exact ⟨_, e⟩
theorem SrcE.range (X : CxOk C T P) {n : Str} {np pp pos : Pos} {nm : Str} {es : WL} {xs : List Expr} (h : BothL C d sc nms false es xs) (hr : n = (Str.ofString "range")) (hn : n ∈ T.bltN) (h3 : gl sc n = true) : SrcE C d sc nms false (.Name nm pp) (.Call (.Name n np) xs [] pos) (xRange es) where
  snd := fun A env V ρ hs ha σ ow s K Ea Q E w ok kx hQ => by
    obtain ⟨g1, g2, g3⟩ := gl_of h3
    have hboot : bootBuiltins n = some (.type "range") := by rw [hr]; decide +kernel
    refine wpAny_Call_ofName (bname X (by unfold Env.kindOf; rw [hs]; exact g1) g2 ok hn g3 hboot ?_)
    refine PyProof.Rows.callWith_type (starEach_any h.stars) (evalArgs_any h.stars (h.snd hs ha σ ow s _ Ea _ E w ok (fun vs avs σ' ow' s' z st g r => ?_) kx))
    obtain ⟨a, b, hab, ⟨ha1, hb1, hlen⟩, z⟩ := z
    obtain ⟨hsm, hsz⟩ := small_of ha1 hb1
    have hh := ok.hnd.none
    have fin : ∀ (h₁ : Heap) (tk : Nat) (R : Addr) (t u v : Tok), (∀ b o, s'.heap.get? b = some o → h₁.get? b = some o) → IsRange h₁ R a b 1 t u v → wpAny (model C.prog C.w) A (pyIter (.ref R)) Q E { s' with heap := h₁, toks := tk } := fun h₁ tk R t u v gr1 hR => by
      refine wpAny_pyIter_range hR hsm ?_
      have gr : ∀ c o, s'.heap.get? c = some o → (h₁.push { cls := .type "range_iterator", data := .fields #[rawInt a, rawInt (Builtin.Range.rangeSize a b 1), rawInt 1] }).get? c = some o := fun c o e => Heap.get?_push_of_some _ (gr1 c o e)
      have nI : s'.heap.get? h₁.objs.size = Option.none := by
        cases e : s'.heap.get? h₁.objs.size with
        | none => rfl
        | some o => exact absurd (Heap.lt_size (gr1 _ _ e)) (Nat.lt_irrefl _)
      have fr : ∀ c ∈ [h₁.objs.size], s'.heap.get? c = Option.none ∧ ∃ o, (h₁.push { cls := .type "range_iterator", data := .fields #[rawInt a, rawInt (Builtin.Range.rangeSize a b 1), rawInt 1] }).get? c = some o := fun c m => by
        rw [List.mem_singleton.mp m]
        exact ⟨nI, _, Heap.get?_push_size _ rfl⟩
      have ko := (ok.stp st g).open_ (t := tk) (wr := [h₁.objs.size]) gr fr
      refine hQ _ _ _ _ _ σ' ow' _ z (SrcI.ofW (Walks.range hh h₁.objs.size a 1 (b - a).toNat) (by unfold rangeL; rw [List.length_map, List.length_range]) range_lv) (st.trans (Stp.ext gr tk)) ko ⟨?_, fun c hc => .inl hc, fun j x v hj hp => ?_⟩ (fun c m => st.back rfl g c (fr c m).1) (by unfold rangeL; rw [List.length_map, List.length_range]; omega)
      · show IsRangeIter _ _ _ _ _
        rw [hsz]
        simpa using Heap.get?_push_size _ rfl
      · obtain ⟨t, rfl⟩ := hp
        unfold rangeL at hj
        rw [List.getElem?_map, Option.map_eq_some_iff] at hj
        obtain ⟨k, hk, rfl⟩ := hj
        have : k = j := by
          obtain ⟨hlt, e⟩ := List.getElem?_eq_some_iff.mp hk
          rw [List.getElem_range] at e
          exact e.symm
        subst this
        rw [Int.mul_one]
        exact .int _ _
    obtain ⟨r, _⟩ := r
    cases r with
    | nil => cases hab
    | cons r1 r2 =>
      cases r2 with
      | nil =>
        cases r1 <;> cases hab
        exact call_range_1 (fin _ _ _ _ _ _ (fun _ _ e => Heap.get?_push_of_some _ e) (Heap.get?_push_size _ rfl))
      | cons r2 r3 =>
        cases r3 with
        | nil =>
          cases r1 <;> first | cases hab | skip
          cases r2 <;> cases hab
          exact call_range_2 (fin _ _ _ _ _ _ (fun _ _ e => Heap.get?_push_of_some _ e) (Heap.get?_push_size _ rfl))
        | cons r3 r4 => cases r1 <;> first | cases hab | (cases r2 <;> cases hab)
theorem BothS.forX {src : WX} {v : Expr} {x : Nat} {n : Str} {body : WS} {xs : List Stmt} {np pos : Pos} (hS : SrcE C d sc nms q (.Name n np) v src) (hB : BothB C d sc nms q body xs) (hv : notSet v = true) (hn : nms[x]? = some n) :
    BothS C d sc nms q (sForX x src body) (.For (.Name n np) v xs [] pos) where
  snd := fun A env V outer hF hs ha ρ σ ow s Qa Ea Q E w k ks kx => by
    refine wpAny_For (hS.snd A env V ρ hs ha σ ow s _ _ _ E w k.ok (kx.toE hF k) fun I wr xs G inv σ' ow' s' z S st ko hi fr hl => ?_) fun x => folded_not hv
    have g := ko.good.close_
    have k' := k.stp hF st g
    have nz : ∀ b ∈ wr, b ∉ V.its := fun b m n => by
      obtain ⟨_, o, y⟩ := k.ok.good.mem b (List.mem_append_right _ n)
      rw [fr b m] at y; cases y
    exact loop_snd hF ha.frames (S.it V) (hB.snd A env (V.plus wr) outer hF.plus hs ha.plus) (.one hF.plus hn) k.ok.good.stays fr nz ks kx hi ⟨ko, k'.ns, k'.cells⟩ st.toS (fun v ρ σ R h => ⟨_, rfl, h⟩) z
end
end Ap
end
section
set_option Elab.async false
set_option genSizeOf false
set_option linter.unusedVariables false
set_option linter.unusedSimpArgs false
set_option linter.unusedSectionVars false
namespace Ap
open PySem PySem.Calls PyProof.Rows
noncomputable def maskL (caps : List Nat) (ρ : Loc) : Loc := ρ.zipIdx.map fun p => if caps.contains p.2 then p.1 else Option.none
abbrev TB := AV → Loc → Option Loc
noncomputable def tb1 (x : Nat) : TB := fun v ρ => some (setL ρ x v)
def eNo : PE := fun _ _ => False
def kCL (go : List AV → St → (List AV → St → Prop) → Prop) (acc : List AV) (Q : List AV → St → Prop) : PQ := fun y σ => go (acc ++ [y]) σ Q
def compL (G : St → Prop) (B : AV → St → PQ → Prop) : List AV → List AV → St → (List AV → St → Prop) → Prop
  | [], acc, σ, Q => G σ ∧ Q acc σ
  | v :: vs, acc, σ, Q => G σ ∧ B v σ (kCL (compL G B vs) acc Q)
def bCmp (tb : TB) (elt : WE) (ρ : Loc) : AV → St → PQ → Prop := fun v σ R => ∃ ρ', tb v ρ = some ρ' ∧ elt ρ' σ R eNo
def kCmpE (own : Bool) (Q : PQ) : List AV → St → Prop := fun ys σ => mkL own ys σ Q
def kComp (own : Bool) (tb : TB) (elt : WE) (ρ : Loc) (Q : PQ) : List AV → (St → Prop) → St → Prop := fun xs G σ => compL G (bCmp tb elt ρ) xs [] σ (kCmpE own Q)
def vComp (own : Bool) (src : WX) (tb : TB) (caps : List Nat) (elt : WE) : WE := fun ρ σ Q E => (caps.all fun i => (getL ρ i).isSome) = true ∧ src ρ σ (kComp own tb elt (maskL caps ρ) Q) E
def relS (scope sc : Scope) : Scope := { scope with names := scope.names.map fun p => if (p.2 == .free && sc.kind == .function && sc.names.lookup p.1 == some .cell) then (p.1, .cell) else (p.1, p.2) }
def TgtOk (C : Cx) (scc : Scope) (nms' : List Str) (target : Expr) (tb : TB) : Prop :=
  ∀ (A : Around) (cenv : Env) V σ ow s v u m ρ ρ' (Q : Unit → Shared → Prop) E, A.handled = Option.none → cenv.scope = scc → s.heap.Ns cenv.locals m → VR C (Zs σ ow (zss V)) s.heap v u → tb v ρ = some ρ' →
    (∀ h' tk m', (∀ b o, b ≠ cenv.locals → s.heap.get? b = some o → h'.get? b = some o) → h'.Ns cenv.locals m' →
      (∀ j w, getL ρ' j = some w → getL ρ j = some w ∨ ∃ y val, nms'[j]? = some y ∧ VR C (Zs σ ow (zss V)) s.heap w val ∧ scc.names.lookup y = some .local ∧ m' y = some val) → Q () { s with heap := h', toks := tk }) →
    wpAny (model C.prog C.w) A (assign target cenv u) Q E s
section
variable {C : Cx} {T : Tabs} {P : Prg} {d : Nat} {sc : Scope} {nms nms' : List Str} {q : Bool} {A : Around} {V : Vo} {σ σ' : St} {ow ow' : Nat → Option Nat} {s s' : Shared} {env : Env}
theorem TgtOk.one {scc : Scope} {i : Nat} {x : Str} {pos : Pos} (hk : scc.kind = .function) (hx : nms'[i]? = some x) (hl : scc.names.lookup x = some .local) : TgtOk C scc nms' (.Name x pos) (tb1 i) := by
  intro A cenv V σ ow s v u m ρ ρ' Q E hh hs hn r e K
  cases e
  refine assign_Name (wpAny_storeName_local (by unfold Env.kindOf; rw [hs]; exact hl) hn (fun h' hn' hsb => ?_) (by rw [hs, hk]; rfl))
  refine K h' _ _ (fun b o nb e => (hsb.2 b nb).trans e) hn' fun j w hj => ?_
  rcases getL_set hj with ⟨rfl, rfl⟩ | ⟨_, e⟩
  · exact .inr ⟨x, u, hx, r, hl, if_pos rfl⟩
  · exact .inl e
theorem lookup_of_mem {l : List (Str × Addr)} {y : Str} {c : Addr} (hm : (y, c) ∈ l) (hu : ∀ c', (y, c') ∈ l → c' = c) : l.lookup y = some c := by
  induction l with
  | nil => cases hm
  | cons p r ih =>
    obtain ⟨k, v⟩ := p
    rw [List.lookup_cons]
    cases hb : y == k with
    | true =>
      have := beq_iff_eq.mp hb
      subst this
      rw [hu v List.mem_cons_self]
    | false =>
      rcases List.mem_cons.mp hm with e | hm
      · cases e; rw [beq_self_eq_true] at hb; cases hb
      · exact ih hm fun c' h => hu c' (List.mem_cons_of_mem _ h)
theorem closure_ok {scope : Scope} (hf : ∀ y ∈ scope.names, y.2 = .free → ∃ c, env.cells.lookup y.1 = some c) :
    ∃ cl, closureFor scope env = pure cl ∧ ∀ y c, (y, NameKind.free) ∈ scope.names → env.cells.lookup y = some c → cl.lookup y = some c := by
  have go : ∀ (l : List (Str × NameKind)), (∀ y ∈ l, y.2 = .free → ∃ c, env.cells.lookup y.1 = some c) → ∀ acc : List (Str × Addr), (∀ y c, (y, c) ∈ acc → env.cells.lookup y = some c) →
      ∃ cl, (forIn l acc (fun x r => (match x with | (name, kind) => if (kind == NameKind.free) = true then do
        let c ← cellOf env name
        pure (ForInStep.yield ((name, c) :: r)) else pure (ForInStep.yield r) : Sem (ForInStep (List (Str × Addr))))) : Sem (List (Str × Addr))) = pure cl ∧ (∀ y c, (y, c) ∈ cl → env.cells.lookup y = some c) ∧ (∀ p ∈ acc, p ∈ cl) ∧ ∀ y, (y, NameKind.free) ∈ l → ∃ c, (y, c) ∈ cl := by
    intro l
    induction l with
    | nil => intro _ acc ha; exact ⟨acc, rfl, ha, fun _ h => h, fun y h => nomatch h⟩
    | cons p r ih =>
      obtain ⟨nm, kd⟩ := p
      intro hl acc ha
      rw [List.forIn_cons]
      by_cases hk : kd = .free
      · subst hk
        obtain ⟨c, hc⟩ := hl _ List.mem_cons_self rfl
        have e : cellOf env nm = pure c := by unfold cellOf; rw [hc]
        obtain ⟨cl, c1, c2, c3, c4⟩ := ih (fun y hy => hl y (List.mem_cons_of_mem _ hy)) ((nm, c) :: acc) (fun y c' h => by
          rcases List.mem_cons.mp h with e | h
          · cases e; exact hc
          · exact ha y c' h)
        refine ⟨cl, ?_, c2, fun p hp => c3 p (List.mem_cons_of_mem _ hp), fun y h => ?_⟩
        · simp only [beq_self_eq_true, if_true, e]
          exact c1
        · rcases List.mem_cons.mp h with e | h
          · cases e; exact ⟨c, c3 _ List.mem_cons_self⟩
          · exact c4 y h
      · have hb : (kd == NameKind.free) = false := beq_eq_false_iff_ne.mpr hk
        obtain ⟨cl, c1, c2, c3, c4⟩ := ih (fun y hy => hl y (List.mem_cons_of_mem _ hy)) acc ha
        refine ⟨cl, ?_, c2, c3, fun y h => ?_⟩
        · simp only [hb, Bool.false_eq_true, if_false]
          exact c1
        · rcases List.mem_cons.mp h with e | h
          · cases e; exact absurd rfl hk
          · exact c4 y h
  obtain ⟨cl, c1, c2, c3, c4⟩ := go scope.names hf [] (fun y c h => nomatch h)
  refine ⟨cl, ?_, fun y c hy hc => ?_⟩
  · unfold closureFor
    exact (congrArg (fun x => x >>= pure) c1).trans rfl
  · obtain ⟨c', h'⟩ := c4 y hy
    have : c' = c := by have := c2 y c' h'; rw [hc] at this; cases this; rfl
    subst this
    exact lookup_of_mem h' fun c'' h => by have := c2 y c'' h; rw [hc] at this; cases this; rfl
end
end Ap
end
section
set_option Elab.async false
set_option genSizeOf false
set_option linter.unusedVariables false
set_option linter.unusedSimpArgs false
set_option linter.unusedSectionVars false
namespace Ap
open PySem PySem.Calls PyProof.Rows
section
variable {C : Cx} {T : Tabs} {P : Prg} {d : Nat} {sc : Scope} {nms nms' : List Str} {q : Bool} {A : Around} {V : Vo} {σ σ' : St} {ow ow' : Nat → Option Nat} {s s' : Shared} {env : Env}
theorem compLoop_any {prog : Program} {w : World} {R : Result → Shared → Prop} {elt target iter : Expr} {scope : Scope} {pos : Pos} {it acc : Value} (I : Nat → Shared → Prop)
    (turn : ∀ n s, I n s → wpAny (model prog w) A (pyNext it) (fun r s₁ => match r with
      | Option.none => R (.ok .next) s₁
      | some v => wpAny (model prog w) A (letOwnedTupleGo target it v) (fun _ s₂ => wpAny (model prog w) A (assign target env v) (fun _ s₃ => wpAny (model prog w) A (eval elt env) (fun x s₄ =>
          wpAny (model prog w) A (call (.builtin "list.append") [acc, x]) (fun _ s₅ => ∃ m, m < n ∧ I m s₅) (notedBy (model prog w) A env fun e s' => R (.error e) s') s₄)
          (notedBy (model prog w) A env fun e s' => R (.error e) s') s₃) (notedBy (model prog w) A env fun e s' => R (.error e) s') s₂) (notedBy (model prog w) A env fun e s' => R (.error e) s') s₁) (notedBy (model prog w) A env fun e s' => R (.error e) s') s)
    (n : Nat) (h : I n s) : codeAny (model prog w) A (.compLoop (.ListComp elt [⟨target, iter, [], 0⟩] scope pos) 0 it acc env) R s := by
  refine codeAny_loop rfl I (fun n s hI => ?_) n h
  show wpAny _ _ ((compTurn (.ListComp elt [⟨target, iter, [], 0⟩] scope pos) 0 it acc env).onRaise (fun x => do noteFrame x env; theTreesLotGoes x)) _ _ s
  refine wpAny_noted ?_
  rw [compTurn_list1]
  refine wpAny_bind (wpAny_standAt (wpAny_bind (wpAny_mono (turn n s hI) (fun r s₁ h₁ => ?_) fun _ _ h' => h')))
  cases r with
  | none => exact wpAny_pure h₁
  | some v =>
    refine wpAny_bind (wpAny_mono h₁ (fun _ s₂ h₂ => ?_) fun _ _ h' => h')
    exact wpAny_bind (wpAny_mono h₂ (fun _ s₃ h₃ => wpAny_bind (wpAny_bind (wpAny_mono h₃ (fun x s₄ h₄ => wpAny_bind (wpAny_mono h₄
      (fun _ s₅ h₅ => wpAny_pure (wpAny_pure ⟨rfl, h₅⟩)) fun _ _ h' => h')) fun _ _ h' => h'))) fun _ _ h' => h')
def CapOk (C : Cx) (cenv : Env) (nms' : List Str) (V : Vo) (wr : List Addr) (ρ : Loc) (σ : St) (ow : Nat → Option Nat) (s : Shared) : Prop :=
  ∀ i v, getL ρ i = some v → ∃ y c val, nms'[i]? = some y ∧ VR C (Zs σ ow (zss V)) s.heap v val ∧ (cenv.kindOf y = some .cell ∨ cenv.kindOf y = some .free) ∧ cenv.cells.lookup y = some c ∧ s.heap.IsCell c (some val) ∧ ¬ Own σ ow c ∧ c ∉ wr
theorem CapOk.stp {cenv : Env} {wr : List Addr} {ρ : Loc} (k : CapOk C cenv nms' V wr ρ σ ow s) (x : Stp (frs V) (Own σ ow) (Own σ' ow') s s') : CapOk C cenv nms' V wr ρ σ' ow' s' := fun i v e => by
  obtain ⟨y, c, val, h1, h2, h3, h4, ⟨o, e1, e2⟩, h6, h7⟩ := k i v e
  obtain ⟨sl, e3⟩ := x.up h6 o e1
  exact ⟨y, c, val, h1, x.vr h2, h3, h4, ⟨_, e3, e2⟩, (fun z => (x.fresh _ z).elim h6 fun z => by rw [e1] at z; cases z), h7⟩
theorem CapOk.its {cenv : Env} {wr : List Addr} {ρ : Loc} {h' : Heap} {t : Nat} (k : CapOk C cenv nms' (V.plus wr) wr ρ σ ow s) (hk : ∀ b o, b ∉ wr → s.heap.get? b = some o → h'.get? b = some o) : CapOk C cenv nms' (V.plus wr) wr ρ σ ow { s with heap := h', toks := t } := fun i v e => by
  obtain ⟨y, c, val, h1, h2, h3, h4, ⟨o, e1, e2⟩, h6, h7⟩ := k i v e
  exact ⟨y, c, val, h1, h2.kp (fun b o e nb => hk b o (fun m => nb (.inr (Vo.plus_wr m))) e) (Zg.refl _ _), h3, h4, ⟨o, hk _ _ h7 e1, e2⟩, h6, h7⟩
theorem getL_mask {caps : List Nat} {ρ : Loc} {i : Nat} {v : AV} (h : getL (maskL caps ρ) i = some v) : i ∈ caps ∧ getL ρ i = some v := by
  unfold getL maskL at h
  rw [List.getD_eq_getElem?_getD, List.getElem?_map, List.getElem?_zipIdx] at h
  unfold getL
  rw [List.getD_eq_getElem?_getD]
  cases e : ρ[i]? with
  | none => rw [e] at h; cases h
  | some o =>
    rw [e] at h
    have h' : (if caps.contains (0 + i) then o else Option.none) = some v := h
    rw [Nat.zero_add] at h'
    by_cases hc : caps.contains i = true
    · rw [if_pos hc] at h'
      exact ⟨List.contains_iff_mem.mp hc, h'⟩
    · rw [if_neg hc] at h'; cases h'
theorem plus_plus (V : Vo) (a b : List Addr) : (V.plus a).plus b = V.plus (b ++ a) := by
  unfold Vo.plus
  rw [List.append_assoc]
theorem Good.adopt {D : Addr} {wr : List Addr} {xs : List AV} {vs : List Value} {n : Nat} (G : Good C (V.plus wr) σ ow s) (hD : D ∈ wr) (nV : D ∉ zss V) (e : s.heap.get? D = some (lstO vs n)) (hz : vs.length ≤ 16777216) (r : VRs C (Zs σ ow (zss (V.plus wr))) s.heap xs vs) :
    Good C V (upd σ D (.list xs)) ow s := by
  have nO := G.off D (Vo.plus_wr hD)
  have ow1 : ∀ b, Own (upd σ D (.list xs)) ow b → Own σ ow b ∨ b = D := fun b z => own_upd z
  have zg : Zg (Zs σ ow (zss (V.plus wr))) (Zs (upd σ D (.list xs)) ow (zss V)) s.heap := fun b z => by
    rcases z with z | z
    · rcases ow1 b z with z | z
      · exact .inl (.inl z)
      · exact .inl (.inr (by rw [z]; exact Vo.plus_wr hD))
    · exact .inl (.inr (Vo.plus_sub b z))
  have oD : ow D = Option.none := by
    cases z : ow D with
    | none => rfl
    | some a => exact absurd (.inr (by rw [z]; rfl)) nO
  refine ⟨G.stays, G.frames, fun b m => G.apart b (List.mem_append_right _ m), fun b m => G.mem b (Vo.plus_sub b m), G.sub, fun b o' eb => ?_, fun b c eb => ?_, fun b eb => ?_, fun L hL z => ?_, G.gens⟩
  · by_cases z : b = D
    · subst z
      rw [upd_self] at eb
      cases eb
      exact ⟨vs, ⟨hz, n, e⟩, r.kp (fun _ _ e _ => e) zg⟩
    · rw [upd_ne σ _ z] at eb
      exact (G.store b o' eb).kp (fun _ _ e _ => e) zg rfl fun dx hd => ⟨rfl, hd⟩
  · obtain ⟨x1, x2, x3⟩ := G.parts b c eb
    refine ⟨?_, x2, x3⟩
    rw [upd_ne σ _ (fun q => by subst q; rw [oD] at eb; cases eb)]
    exact x1
  · by_cases z : b = D
    · subst z; exact (G.mem _ (Vo.plus_wr hD)).1
    · rw [upd_ne σ _ z] at eb; exact G.fresh b eb
  · rcases ow1 L z with z | z
    · exact G.off L (Vo.plus_sub L hL) z
    · subst z; exact nV hL
theorem Good.re (G : Good C V σ ow s) {V' : Vo} (hl : V'.l = V.l) (hf : V'.fs = V.fs) (hi : ∀ b, b ∈ V'.its ↔ b ∈ V.its) : Good C V' σ ow s := by
  have hz : ∀ b, b ∈ zss V' → b ∈ zss V := fun b m => by
    rcases List.mem_append.mp m with m | m
    · exact List.mem_append_left _ (hf ▸ m)
    · exact List.mem_append_right _ ((hi b).mp m)
  have zg : Zg (Zs σ ow (zss V)) (Zs σ ow (zss V')) s.heap := fun b z => .inl (z.imp id (hz b))
  refine ⟨G.stays, by rw [hl]; exact G.frames, fun b m n => G.apart b ((hi b).mp m) (hf ▸ n), fun b m => G.mem b (hz b m), by rw [hl, hf]; exact G.sub, fun b o e => ?_, G.parts, G.fresh, fun L m => G.off L (hz L m), G.gens⟩
  exact (G.store b o e).kp (fun _ _ e _ => e) zg rfl fun dx hd => ⟨rfl, hd⟩
theorem Stp.its {O O' : Nat → Prop} {s₀ : Shared} {wr : List Addr} {h' : Heap} {t : Nat} (x : Stp (frs V) O O' s₀ s) (nf : ∀ b ∈ V.fs, b ∉ wr) (k : ∀ b o, b ∉ wr → s.heap.get? b = some o → h'.get? b = some o) (fr : ∀ b ∈ wr, s₀.heap.get? b = Option.none) :
    Stp (frs V) O O' s₀ { s with heap := h', toks := t } where
  keep := fun b o e n m => k b o (fun w => by rw [fr b w] at e; cases e) (x.keep b o e n m)
  frm := fun b o e m => (x.frm b o e m).elim fun sl z => ⟨sl, k b _ (nf b m) z⟩
  grow := x.grow
  fresh := x.fresh
  gens := x.gens
  drawn := x.drawn
  os := x.os
theorem Stp.adopt {O : Nat → Prop} {fs : List Addr} {s₀ : Shared} {D : Addr} {o : AObj} (x : Stp fs O (Own σ ow) s₀ s) (fr : s₀.heap.get? D = Option.none) : Stp fs O (Own (upd σ D o) ow) s₀ s :=
  ⟨x.keep, x.frm, fun b z => own_up (x.grow b z), fun b z => by
    rcases own_upd z with z | z
    · exact x.fresh b z
    · subst z; exact .inr fr, x.gens, x.drawn, x.os⟩
theorem compL_G {G : St → Prop} {B : AV → St → PQ → Prop} {xs acc : List AV} {R : List AV → St → Prop} (h : compL G B xs acc σ R) : G σ := by
  cases xs with
  | nil => exact h.1
  | cons x xs => exact h.1
def okComp (scope sc : Scope) (nms nms' : List Str) (caps : List Nat) : Bool :=
  scope.kind == .function && (scope.names.all fun y => !(y.2 == .cell) && (!(y.2 == .free) || caps.any fun i => nms[i]? == some y.1) && (!(y.2 == .local) || scope.names.lookup y.1 == some .local)) &&
  (caps.all fun i => nms'[i]? == nms[i]? && ((nms[i]?).map fun y => (scope.names.contains (y, NameKind.free)) && (sc.names.lookup y == some .cell || sc.names.lookup y == some .free) && ((relS scope sc).names.lookup y == some .cell || (relS scope sc).names.lookup y == some .free)) == some true)
structure CEnd (C : Cx) (V : Vo) (own : Bool) (Qa : PQ) (σ : St) (ow : Nat → Option Nat) (s : Shared) (D Cc : Addr) (σ₁ : St) (ow₁ : Nat → Option Nat) (s₁ : Shared) : Prop where
  ex : ∃ vs kk acc m, kCmpE own Qa acc σ₁ ∧ s₁.heap.get? D = some (lstO vs kk) ∧ VRs C (Zs σ₁ ow₁ (zss (V.plus [Cc, D]))) s₁.heap acc vs ∧ s₁.heap.Ns Cc m ∧ vs.length ≤ 16777216
  good : Good C (V.plus [Cc, D]) σ₁ ow₁ s₁
  stp : Stp (frs V) (Own σ ow) (Own σ₁ ow₁) s s₁
  ne : D ≠ Cc
  fr : ∀ b ∈ [Cc, D], s.heap.get? b = Option.none
theorem comp_core {own : Bool} {src : WX} {tb : TB} {caps : List Nat} {ew : WE} {elt iter target : Expr} {scope : Scope} {pos pos' : Pos} {use : Option (Value → Sem Unit)} (hS : SrcE C d sc nms false target iter src) (hE : Both C d (relS scope sc) nms' false ew elt) (hT : TgtOk C (relS scope sc) nms' target tb)
    (hk : okComp scope sc nms nms' caps = true) (hset : notSet iter = true) {ρ : Loc} {Qa : PQ} {Ea : PE} {Q : Value → Shared → Prop} {E : Value → Shared → Prop} (hs : env.scope = sc) (ha : AOk A V d) (w : vComp own src tb caps ew ρ σ Qa Ea) (ok : Ok C A false env V nms ρ σ ow s) (kx : KX C V σ ow s Ea E)
    (fin : ∀ D Cc σ₁ ow₁ s₁, CEnd C V own Qa σ ow s D Cc σ₁ ow₁ s₁ → compPost (model C.prog C.w) A E use Q (.ref D) Cc (.ok .next) s₁) :
    wpAny (model C.prog C.w) A (comprehension (.ListComp elt [⟨target, iter, [], 0⟩] scope pos) scope env pos' (newList []) false (eval iter env) use) Q E s := by
  obtain ⟨hc, w⟩ := w
  have hh := ok.hnd.none
  unfold okComp at hk
  rw [Bool.and_eq_true, Bool.and_eq_true, beq_iff_eq] at hk
  obtain ⟨⟨hkind, hnm⟩, hcp⟩ := hk
  have hn1 : ∀ y ∈ scope.names, y.2 ≠ .cell ∧ (y.2 = .free → ∃ i ∈ caps, nms[i]? = some y.1) ∧ (y.2 = .local → scope.names.lookup y.1 = some .local) := fun y hy => by
    have := List.all_eq_true.mp hnm y hy
    rw [Bool.and_eq_true, Bool.and_eq_true, Bool.or_eq_true, Bool.or_eq_true, Bool.not_eq_true', Bool.not_eq_true', Bool.not_eq_true', beq_iff_eq] at this
    obtain ⟨⟨t1, t2⟩, t3⟩ := this
    refine ⟨(fun z => by rw [z] at t1; cases t1), fun z => ?_, fun z => t3.resolve_left (by rw [z]; decide)⟩
    obtain ⟨i, hi, e⟩ := List.any_eq_true.mp (t2.resolve_left (by rw [z]; decide))
    exact ⟨i, hi, beq_iff_eq.mp e⟩
  have hn2 : ∀ i ∈ caps, ∃ y v c val, (nms[i]? = some y ∧ nms'[i]? = some y ∧ (y, NameKind.free) ∈ scope.names ∧ ((relS scope sc).names.lookup y = some .cell ∨ (relS scope sc).names.lookup y = some .free)) ∧ getL ρ i = some v ∧ VR C (Zs σ ow (zss V)) s.heap v val ∧ env.cells.lookup y = some c ∧ s.heap.IsCell c (some val) ∧ ¬ Own σ ow c ∧ env.kindOf y ≠ some .local := fun i hi => by
    have h1 := List.all_eq_true.mp hcp i hi
    rw [Bool.and_eq_true, beq_iff_eq, beq_iff_eq, Option.map_eq_some_iff] at h1
    obtain ⟨e1, y, e2, h1⟩ := h1
    rw [Bool.and_eq_true, Bool.and_eq_true, Bool.or_eq_true, Bool.or_eq_true, beq_iff_eq, beq_iff_eq, beq_iff_eq, beq_iff_eq] at h1
    obtain ⟨⟨h1, h2⟩, h3⟩ := h1
    obtain ⟨v, e3⟩ := Option.isSome_iff_exists.mp (List.all_eq_true.mp hc i hi)
    obtain ⟨y', val, e4, r, l⟩ := ok.loc.val i v e3
    rw [e2] at e4
    cases e4
    have nl : env.kindOf y ≠ some .local := fun kd => by
      unfold Env.kindOf at kd
      rw [hs] at kd
      rcases h2 with h2 | h2 <;> rw [kd] at h2 <;> cases h2
    refine ⟨y, v, ?_⟩
    rcases l with ⟨kd, _⟩ | ⟨c, kd, hc', hv, ho⟩
    · exact absurd kd nl
    · exact ⟨c, val, ⟨e2, e1.trans e2, List.contains_iff_mem.mp h1, h3⟩, e3, r, hc', hv, ho, nl⟩
  obtain ⟨cl, hcl, hlk⟩ := closure_ok (env := env) (scope := scope) fun y hy hf => by
    obtain ⟨i, hi, e⟩ := (hn1 y hy).2.1 hf
    obtain ⟨y', v, c, val, ⟨e1, _⟩, _, _, hc', _⟩ := hn2 i hi
    rw [e] at e1
    cases e1
    exact ⟨c, hc'⟩
  refine wpAny_comprehension_free (use := use) rfl (fun x => folded_not hset) hcl hkind (fun y hy => (hn1 y hy).2.2) ?_
  refine hS.snd A env V ρ hs ha σ ow s _ Ea _ E w ok kx fun I wr xs G inv σ' ow' s' z S st ko hi fr hlen => ?_
  refine wpAny_newObj_type (wpAny_newFunctionEnv (fun y hy => (hn1 y hy).1) (by intro y hy; simp at hy) (fun h₁ hns₁ hsb₁ => ?_) hkind)
  dsimp only at hns₁ hsb₁ ⊢
  generalize hH2 : s'.heap.push { cls := .type "list", dict := Option.none, data := .seq ([] : List Value).toArray } = H2 at hns₁ hsb₁ ⊢
  have hCs : H2.objs.size = s'.heap.objs.size + 1 := by rw [← hH2, Heap.size_push]
  have hDC : s'.heap.objs.size ≠ H2.objs.size := by rw [hCs]; exact Nat.ne_of_lt (Nat.lt_succ_self _)
  have below : ∀ b, b < s'.heap.objs.size → b ≠ H2.objs.size ∧ b ≠ s'.heap.objs.size := fun b hb => ⟨by rw [hCs]; exact Nat.ne_of_lt (Nat.lt_succ_of_lt hb), Nat.ne_of_lt hb⟩
  have old : ∀ b o, s'.heap.get? b = some o → h₁.get? b = some o := fun b o e => hsb₁.extBut b o (below b (Heap.lt_size e)).1 (Heap.get?_push_of_some _ (hH2 ▸ Heap.get?_push_of_some _ e))
  have hacc : h₁.get? s'.heap.objs.size = some (lstO [] 0) := hsb₁.extBut _ _ hDC (Heap.get?_push_of_some _ (hH2 ▸ Heap.get?_push_size _ rfl))
  obtain ⟨D, hD⟩ : ∃ D, s'.heap.objs.size = D := ⟨_, rfl⟩
  obtain ⟨Cc, hCc⟩ : ∃ Cc, H2.objs.size = Cc := ⟨_, rfl⟩
  have frD : s'.heap.get? D = Option.none := by rw [← hD]; exact Heap.fresh _
  have frC : s'.heap.get? Cc = Option.none := by
    cases e : s'.heap.get? Cc with
    | none => rfl
    | some o => exact absurd hCc.symm (below Cc (Heap.lt_size e)).1
  rw [hD] at hDC hacc ⊢
  rw [hCc] at hDC hns₁ ⊢
  clear hD hCc hsb₁ below hCs hH2
  -- the vessel of the comprehension: its names, the list that it makes, what it runs over
  have e3 : (V.plus [Cc, D]).plus wr = V.plus (wr ++ [Cc, D]) := plus_plus V _ _
  have frx : ∀ b ∈ [Cc, D], s'.heap.get? b = Option.none ∧ ∃ o, h₁.get? b = some o := fun b hb => by
    rcases List.mem_cons.mp hb with rfl | hb
    · obtain ⟨o, es, ep, e, _⟩ := hns₁
      exact ⟨frC, o, e⟩
    · rw [List.mem_singleton.mp hb]
      exact ⟨frD, _, hacc⟩
  have fr3 : ∀ b ∈ wr ++ [Cc, D], s.heap.get? b = Option.none := fun b hb => by
    rcases List.mem_append.mp hb with hb | hb
    · exact fr b hb
    · exact st.back rfl ko.good.close_ b (frx b hb).1
  have k0 := ko.close_
  have nfs : ∀ b ∈ V.fs, b ∉ wr ++ [Cc, D] := fun b m n => by
    obtain ⟨_, o, y⟩ := ok.good.mem b (V.sub b m)
    rw [fr3 b n] at y; cases y
  have nits : ∀ b ∈ wr ++ [Cc, D], b ∉ zss V := fun b m n => by
    obtain ⟨_, o, y⟩ := ok.good.mem b n
    rw [fr3 b m] at y; cases y
  have Cw : Cc ∉ wr := fun m => by
    obtain ⟨_, o, y⟩ := ko.good.mem Cc (Vo.plus_wr m)
    rw [frC] at y; cases y
  have Dw : D ∉ wr := fun m => by
    obtain ⟨_, o, y⟩ := ko.good.mem D (Vo.plus_wr m)
    rw [frD] at y; cases y
  generalize hce : compEnvC scope cl Cc env = cenv
  have cL : cenv.locals = Cc := by rw [← hce]; rfl
  have cS : cenv.scope = relS scope sc := by rw [← hce, ← hs]; rfl
  have cC : cenv.cells = cl := by rw [← hce]; rfl
  have cG : cenv.globals = mainGlobals := by rw [← hce]; exact ok.loc.glob
  have cB : cenv.builtins = builtinsNs := by rw [← hce]; exact ok.loc.blt
  have g3 : Good C (V.plus (wr ++ [Cc, D])) σ' ow' { s' with heap := h₁, toks := s'.toks + ([] : List (Str × Value)).length } :=
    (ko.good.open_ (wr := [Cc, D]) old frx).re rfl rfl fun b => by
      show b ∈ (wr ++ [Cc, D]) ++ V.its ↔ b ∈ [Cc, D] ++ (wr ++ V.its)
      simp only [List.mem_append]
      constructor
      · rintro ((h | h) | h)
        · exact .inr (.inl h)
        · exact .inl h
        · exact .inr (.inr h)
      · rintro (h | h | h)
        · exact .inl (.inr h)
        · exact .inl (.inl h)
        · exact .inr h
  have hi1 := S.wide V [Cc, D] 0 σ' ow' s' h₁ (s'.toks + ([] : List (Str × Value)).length) hi (fun b hb => (frx b hb).1) old
  have cap0 : CapOk C cenv nms' (V.plus (wr ++ [Cc, D])) (wr ++ [Cc, D]) (maskL caps ρ) σ' ow' { s' with heap := h₁, toks := s'.toks + ([] : List (Str × Value)).length } := fun i v e => by
    obtain ⟨m1, m2⟩ := getL_mask e
    obtain ⟨y, v', c, val, ⟨e1, e2, e4, e5⟩, e6, r, e7, ⟨o, e8, e9⟩, e10, nl⟩ := hn2 i m1
    obtain ⟨y', val', n1, r', l⟩ := ko.loc.val i v m2
    rw [e1] at n1
    cases n1
    have cN : c ∉ wr ++ [Cc, D] := fun m => by rw [fr3 c m] at e8; cases e8
    rcases l with ⟨kd, _⟩ | ⟨c', kd, hc', ⟨o', e11, e12⟩, ho⟩
    · exact absurd kd nl
    · rw [e7] at hc'
      cases hc'
      refine ⟨y, c, val', e2, r'.kp (fun b o e _ => old b o e) (fun b z => ?_), ?_, by rw [cC]; exact hlk y c e4 e7, ⟨_, old _ _ e11, e12⟩, ho, cN⟩
      · rcases z with z | z
        · exact .inl (.inl z)
        · rcases Vo.plus_mem z with z | z
          · exact .inl (.inr (Vo.plus_sub b z))
          · rcases List.mem_append.mp z with z | z
            · exact .inl (.inr (Vo.plus_wr z))
            · exact .inr (frx b z).1
      · unfold Env.kindOf
        rw [cS]
        exact e5
  have loop : codeAny (model C.prog C.w) A (.compLoop (.ListComp elt [⟨target, iter, [], 0⟩] scope pos) 0 (.ref I) (.ref D) cenv) (compPost (model C.prog C.w) A E use Q (.ref D) Cc) { s' with heap := h₁, toks := s'.toks + ([] : List (Str × Value)).length } := by
    refine compLoop_any (fun n s₁ => ∃ i acc vs σ₁ ow₁ m k, n = xs.length - i ∧ i ≤ xs.length ∧ inv (V.plus [Cc, D]) i σ₁ ow₁ s₁ ∧ Good C (V.plus (wr ++ [Cc, D])) σ₁ ow₁ s₁ ∧ s₁.heap.get? D = some (lstO vs k) ∧ vs.length = i ∧ VRs C (Zs σ₁ ow₁ (zss (V.plus (wr ++ [Cc, D])))) s₁.heap acc vs ∧ s₁.heap.Ns Cc m ∧
      CapOk C cenv nms' (V.plus (wr ++ [Cc, D])) (wr ++ [Cc, D]) (maskL caps ρ) σ₁ ow₁ s₁ ∧ Stp (frs V) (Own σ ow) (Own σ₁ ow₁) s s₁ ∧ compL G (bCmp tb ew (maskL caps ρ)) (xs.drop i) acc σ₁ (kCmpE own Qa)) ?_ xs.length
      ⟨0, [], [], σ', ow', _, 0, rfl, Nat.zero_le _, hi1, g3, hacc, rfl, .nil, hns₁, cap0, st.trans (Stp.ext old _), z⟩
    rintro n s₁ ⟨i, acc, vs, σ₁, ow₁, m, kk, rfl, hle, hi, g, hDo, hvl, hr, hns, cap, st1, w⟩
    have e4 : Good C ((V.plus [Cc, D]).plus wr) σ₁ ow₁ s₁ := by rw [e3]; exact g
    by_cases hlt : i < xs.length
    · have hd : xs.drop i = xs[i] :: xs.drop (i + 1) := List.drop_eq_getElem_cons hlt
      rw [hd] at w
      obtain ⟨hG, ρ', htb, w⟩ := w
      refine wpAny_mono ((S.it (V.plus [Cc, D])).next i xs[i] σ₁ ow₁ s₁ _ _ (List.getElem?_eq_getElem hlt) hi e4 hG ?_) (fun r s₁ h₁ => by
        cases r with
        | none => exact False.elim h₁
        | some v => exact h₁) fun _ _ z => z
      intro v h' tk r hi' hk lv
      rw [e3] at r
      have hns' : h'.Ns Cc m := hns.at' fun o e => hk _ _ Cw e
      have hk3 : ∀ b o, b ∉ wr ++ [Cc, D] → s₁.heap.get? b = some o → h'.get? b = some o := fun b o nb e => hk b o (fun m => nb (List.mem_append_left _ m)) e
      have hDo' : h'.get? D = some (lstO vs kk) := hk _ _ Dw hDo
      have lv3 : ∀ b ∈ wr ++ [Cc, D], ∃ o, h'.get? b = some o := fun b hb => by
        rcases List.mem_append.mp hb with hb | hb
        · exact lv b hb
        · rcases List.mem_cons.mp hb with rfl | hb
          · obtain ⟨o, es, ep, e, _⟩ := hns'
            exact ⟨o, e⟩
          · rw [List.mem_singleton.mp hb]
            exact ⟨_, hDo'⟩
      have g' := g.its (t := tk) hk3 lv3
      refine hT A cenv (V.plus (wr ++ [Cc, D])) σ₁ ow₁ { s₁ with heap := h', toks := tk } xs[i] v m (maskL caps ρ) ρ' _ _ hh cS (by rw [cL]; exact hns') r htb fun h₂ tk₂ m₂ hk₂ hns₂ hρ => ?_
      rw [cL] at hk₂ hns₂
      have hk23 : ∀ b o, b ∉ wr ++ [Cc, D] → h'.get? b = some o → h₂.get? b = some o := fun b o nb e => hk₂ b o (fun q => nb (List.mem_append_right _ (by rw [q]; exact List.mem_cons_self))) e
      have hDo₂ : h₂.get? D = some (lstO vs kk) := hk₂ _ _ hDC hDo'
      have lv₂ : ∀ b ∈ wr ++ [Cc, D], ∃ o, h₂.get? b = some o := fun b hb => by
        by_cases q : b = Cc
        · subst q
          obtain ⟨o, es, ep, e, _⟩ := hns₂
          exact ⟨o, e⟩
        · obtain ⟨o, e⟩ := lv3 b hb
          exact ⟨o, hk₂ b o q e⟩
      have g₂ : Good C (V.plus (wr ++ [Cc, D])) σ₁ ow₁ { s₁ with heap := h₂, toks := tk₂ } := g'.its (t := tk₂) hk23 lv₂
      have cap₂ : CapOk C cenv nms' (V.plus (wr ++ [Cc, D])) (wr ++ [Cc, D]) (maskL caps ρ) σ₁ ow₁ { s₁ with heap := h₂, toks := tk₂ } := (cap.its (t := tk) hk3).its (t := tk₂) hk23
      have hK₂ : Kp (Zs σ₁ ow₁ (zss (V.plus (wr ++ [Cc, D])))) h' h₂ := fun b o e nb => hk23 b o (fun m => nb (.inr (Vo.plus_wr m))) e
      have hi₂ := (S.it (V.plus [Cc, D])).move (i + 1) σ₁ ow₁ _ h₂ tk₂ hi' (by rw [e3]; exact g') fun b o hb e => hk₂ b o (fun q => Cw (by rw [← q]; exact hb (by rw [q]; exact List.mem_append_left _ List.mem_cons_self))) e
      have st₂ : Stp (frs V) (Own σ ow) (Own σ₁ ow₁) s { s₁ with heap := h₂, toks := tk₂ } := (st1.its (t := tk) nfs hk3 fr3).its (t := tk₂) nfs hk23 fr3
      have ok₂ : Ok C A false cenv (V.plus (wr ++ [Cc, D])) nms' ρ' σ₁ ow₁ { s₁ with heap := h₂, toks := tk₂ } := by
        refine ⟨g₂, ⟨by rw [cS]; exact hkind, cG, cB, by rw [cL]; exact g₂.off Cc (Vo.plus_wr (List.mem_append_right _ List.mem_cons_self)), fun j x hj => ?_⟩, .inl hh, ?_⟩
        · rcases hρ j x hj with e | ⟨y, val, n1, rv, lo, mv⟩
          · obtain ⟨y, c, val, h1, h2, h3, h4, h5, h6, h7⟩ := cap₂ j x e
            exact ⟨y, val, h1, h2, .inr ⟨c, h3, h4, h5, h6⟩⟩
          · exact ⟨y, val, n1, rv.kp hK₂ (Zg.refl _ _), .inl ⟨by unfold Env.kindOf; rw [cS]; exact lo, m₂, by rw [cL]; exact hns₂, mv⟩⟩
        · rw [cL]
          obtain ⟨o, es, ep, e, _⟩ := hns₂
          exact ⟨o, e⟩
      refine hE.ev A cenv (V.plus (wr ++ [Cc, D])) ρ' cS ha.plus σ₁ ow₁ _ _ eNo _ _ w ok₂ (fun y av σ₃ ow₃ s₃ z₃ st₃ g₃ r₃ => ?_) (fun e c σ₃ ow₃ s₃ z₃ => False.elim z₃)
      have DZ : D ∈ wr ++ [Cc, D] := List.mem_append_right _ (by simp)
      have CZ : Cc ∈ wr ++ [Cc, D] := List.mem_append_right _ (by simp)
      have kpz : ∀ b o, b ∈ wr ++ [Cc, D] → h₂.get? b = some o → s₃.heap.get? b = some o := fun b o hb e => st₃.keep b o e (g₂.off b (Vo.plus_wr hb)) fun z => nfs b z hb
      have hDo₃ := kpz D _ DZ hDo₂
      have z₃' : compL G (bCmp tb ew (maskL caps ρ)) (xs.drop (i + 1)) (acc ++ [av]) σ₃ (kCmpE own Qa) := z₃
      refine append_at (hsz := by rw [List.size_toArray]; unfold sizeLine; omega) hDo₃ fun h₄ hsb hDo₄ => ?_
      have hk₄ : ∀ b o, b ≠ D → s₃.heap.get? b = some o → h₄.get? b = some o := fun b o nb e => (hsb.2 b nb).trans e
      have hk43 : ∀ b o, b ∉ wr ++ [Cc, D] → s₃.heap.get? b = some o → h₄.get? b = some o := fun b o nb e => hk₄ b o (fun q => nb (q ▸ DZ)) e
      have hK₄ : Kp (Zs σ₃ ow₃ (zss (V.plus (wr ++ [Cc, D])))) s₃.heap h₄ := fun b o e nb => hk43 b o (fun m => nb (.inr (Vo.plus_wr m))) e
      have lv₄ : ∀ b ∈ wr ++ [Cc, D], ∃ o, h₄.get? b = some o := fun b hb => by
        by_cases q : b = D
        · subst q; exact ⟨_, hDo₄⟩
        · obtain ⟨o, e⟩ := lv₂ b hb
          exact ⟨o, hk₄ b o q (kpz b o hb e)⟩
      have hi₃ := (S.it (V.plus [Cc, D])).step [] (i + 1) σ₁ ow₁ _ σ₃ ow₃ s₃ hi₂ (by rw [e3]; exact g₂) st₃.toS (by rw [e3]; exact g₃) (compL_G z₃')
      have hi₄ := (S.it (V.plus [Cc, D])).move (i + 1) σ₃ ow₃ s₃ h₄ s₃.toks hi₃ (by rw [e3]; exact g₃) fun b o hb e => hk₄ b o (fun q => Dw (by rw [← q]; exact hb (by rw [q]; exact List.mem_append_left _ (by simp)))) e
      have hr₃ : VRs C (Zs σ₃ ow₃ (zss (V.plus (wr ++ [Cc, D])))) s₃.heap acc vs := st₃.vrs (((hr.kp (fun b o e nb => hk3 b o (fun m => nb (.inr (Vo.plus_wr m))) e) (Zg.refl _ _) : VRs C _ h' acc vs)).kp hK₂ (Zg.refl _ _))
      refine ⟨xs.length - (i + 1), by omega, i + 1, acc ++ [av], vs ++ [y], σ₃, ow₃, m₂, kk + 1, rfl, hlt, hi₄, g₃.its hk43 lv₄, by rw [hDo₄]; simp, by rw [List.length_append, hvl]; rfl, VRs.append (.cons (r₃.kp hK₄ (Zg.refl _ _)) .nil) (hr₃.kp hK₄ (Zg.refl _ _)), ?_, (cap₂.stp st₃).its hk43, (st₂.trans st₃).its nfs hk43 fr3, z₃'⟩
      exact (hns₂.at' fun o e => kpz Cc o CZ e : s₃.heap.Ns Cc m₂).at' fun o e => hk₄ _ _ (Ne.symm hDC) e
    · have he : i = xs.length := by omega
      subst he
      rw [List.drop_length] at w
      obtain ⟨hG, w⟩ := w
      refine (S.it (V.plus [Cc, D])).done σ₁ ow₁ s₁ _ _ hi e4 (.inl hh) hG fun h' tk hk => ?_
      have g2 : Good C (V.plus [Cc, D]) σ₁ ow₁ { s₁ with heap := h', toks := tk } := e4.drop (fun b hb n => by
        rcases List.mem_append.mp n with n | n
        · rcases List.mem_cons.mp n with n | n
          · exact Cw (n ▸ hb)
          · exact Dw (List.mem_singleton.mp n ▸ hb)
        · exact nits b (List.mem_append_left _ hb) (List.mem_append_right _ n)) hk
      have zg : Zg (Zs σ₁ ow₁ (zss (V.plus (wr ++ [Cc, D])))) (Zs σ₁ ow₁ (zss (V.plus [Cc, D]))) s₁.heap := fun b z => .inl (z.imp id fun z => by
        rcases Vo.plus_mem z with z | z
        · exact Vo.plus_sub b z
        · exact Vo.plus_wr (List.mem_append_right _ z))
      exact fin D Cc σ₁ ow₁ _ ⟨⟨vs, kk, acc, m, w, hk _ _ Dw hDo, hr.kp (fun b o e nb => hk b o (fun m => nb (.inr (Vo.plus_wr (List.mem_append_left _ m)))) e) zg, hns.at' fun o e => hk _ _ Cw e, by omega⟩, g2, st1.its (fun b hb m => nfs b hb (List.mem_append_left _ m)) hk fun b hb => fr3 b (List.mem_append_left _ hb), hDC, fun b hb => fr3 b (List.mem_append_right _ hb)⟩
  rw [← hce] at loop
  exact codeAny_compStart_list loop ((S.it (V.plus [Cc, D])).self 0 σ' ow' _ _ _ hi1 (by rw [e3]; exact g3) loop)
theorem CEnd.val {own : Bool} {Qa : PQ} {D Cc : Addr} {σ₁ : St} {ow₁ : Nat → Option Nat} {s₁ : Shared} (x : CEnd C V own Qa σ ow s D Cc σ₁ ow₁ s₁) (G : Good C V σ ow s) :
    ∃ av σ₂, Qa av σ₂ ∧ Stp (frs V) (Own σ ow) (Own σ₂ ow₁) s s₁ ∧ Good C (V.plus [Cc]) σ₂ ow₁ s₁ ∧ VR C (Zs σ₂ ow₁ (zss (V.plus [Cc]))) s₁.heap av (.ref D) := by
  obtain ⟨⟨vs, kk, acc, m, w, hD, r, _, hz⟩, g, st, ne, fr⟩ := x
  have gD : Good C ((V.plus [Cc]).plus [D]) σ₁ ow₁ s₁ := g.re rfl rfl fun b => by
    show b ∈ [D] ++ ([Cc] ++ V.its) ↔ b ∈ [Cc, D] ++ V.its
    simp only [List.mem_append, List.mem_cons, List.not_mem_nil, or_false]
    constructor
    · rintro (h | h | h)
      · exact .inl (.inr h)
      · exact .inl (.inl h)
      · exact .inr h
    · rintro ((h | h) | h)
      · exact .inr (.inl h)
      · exact .inl h
      · exact .inr (.inr h)
  have zz : ∀ b, Zs σ₁ ow₁ (zss ((V.plus [Cc]).plus [D])) b → Zs σ₁ ow₁ (zss (V.plus [Cc, D])) b := fun b z => z.imp id fun z => by
    rcases Vo.plus_mem z with z | z
    · rcases Vo.plus_mem z with z | z
      · exact Vo.plus_sub b z
      · exact Vo.plus_wr (by rw [List.mem_singleton.mp z]; simp)
    · exact Vo.plus_wr (by rw [List.mem_singleton.mp z]; simp)
  have r' : VRs C (Zs σ₁ ow₁ (zss ((V.plus [Cc]).plus [D]))) s₁.heap acc vs := r.kp (fun _ _ e _ => e) fun b z => .inl (zz b z)
  have frD : s.heap.get? D = Option.none := fr D (by simp)
  have nV : D ∉ zss (V.plus [Cc]) := fun m => by
    rcases Vo.plus_mem m with m | m
    · obtain ⟨_, o, y⟩ := G.mem D m
      rw [frD] at y; cases y
    · exact ne (List.mem_singleton.mp m)
  have nO : ¬ Own σ₁ ow₁ D := gD.off D (Vo.plus_wr (by simp))
  cases own with
  | false => exact ⟨.ilist acc, σ₁, w, st, gD.close_, .ilist ⟨hz, kk, hD⟩ (fun z => z.elim nO nV) (r'.kp (fun _ _ e _ => e) fun b z => .inl (zs_plus z))⟩
  | true =>
    have sD : σ₁ D = Option.none := by
      cases e : σ₁ D with
      | none => rfl
      | some o => exact absurd (.inl (by rw [e]; rfl)) nO
    exact ⟨.obj D, _, w D sD, st.adopt frD, gD.adopt (by simp) nV hD hz r', .obj D⟩
theorem Both.comp {own : Bool} {src : WX} {tb : TB} {caps : List Nat} {ew : WE} {elt iter target : Expr} {scope : Scope} {pos : Pos} (hS : SrcE C d sc nms false target iter src) (hE : Both C d (relS scope sc) nms' false ew elt) (hT : TgtOk C (relS scope sc) nms' target tb)
    (hk : okComp scope sc nms nms' caps = true) (hset : notSet iter = true) : Both C d sc nms false (vComp own src tb caps ew) (.ListComp elt [⟨target, iter, [], 0⟩] scope pos) :=
  .of rfl fun A env V ρ hs ha σ ow s Qa Ea Q E w ok kv kx => by
    rw [eval_ListComp]
    refine comp_core (use := Option.none) hS hE hT hk hset hs ha w ok kx fun D Cc σ₁ ow₁ s₁ x => ?_
    obtain ⟨av, σ₂, w', st, g, r⟩ := x.val ok.good
    obtain ⟨_, _, _, m, _, _, _, hns, _⟩ := x.ex
    have frC : s.heap.get? Cc = Option.none := x.fr Cc (by simp)
    have nf : ∀ b ∈ V.fs, b ∉ [Cc] := fun b m n => by
      obtain ⟨_, o, y⟩ := ok.good.mem b (V.sub b m)
      rw [List.mem_singleton.mp n, frC] at y; cases y
    have nz : ∀ b ∈ [Cc], b ∉ V.its := fun b m n => by
      obtain ⟨_, o, y⟩ := ok.good.mem b (List.mem_append_right _ n)
      rw [List.mem_singleton.mp m, frC] at y; cases y
    refine ⟨m, hns, fun h' hsb => ?_⟩
    have hk' : ∀ b o, b ∉ [Cc] → s₁.heap.get? b = some o → h'.get? b = some o := fun b o nb e => hsb.extBut b o (fun q => nb (by rw [q]; simp)) e
    exact kv _ _ σ₂ ow₁ _ w' (st.its (t := s₁.toks) nf hk' fun b m => by rw [List.mem_singleton.mp m]; exact frC) (g.drop nz hk') (r.kp (fun b o e nb => hk' b o (fun m => nb (.inr (Vo.plus_wr m))) e) fun b z => .inl (zs_plus z))
def swapOk (scope sc : Scope) (n : Str) (l1 l2 : Nat) : Bool := sc.names.lookup n == some .local && l1 == l2 && !(scope.names.any fun p => p.1 == n && (p.2 == .local || p.2 == .cell))
theorem BothS.assignComp {own : Bool} {src : WX} {tb : TB} {caps : List Nat} {ew : WE} {elt iter target : Expr} {scope : Scope} {pos np spos : Pos} {x : Nat} {n : Str} (hS : SrcE C d sc nms false target iter src) (hE : Both C d (relS scope sc) nms' false ew elt) (hT : TgtOk C (relS scope sc) nms' target tb)
    (hk : okComp scope sc nms nms' caps = true) (hset : notSet iter = true) (hn : nms[x]? = some n) (hsw : swapOk scope sc n np.line pos.line = true) :
    BothS C d sc nms false (sAssign x (vComp own src tb caps ew)) (.Assign [.Name n np] (.ListComp elt [⟨target, iter, [], 0⟩] scope pos) spos) where
  snd := fun A env V outer hF hs ha ρ σ ow s Qa Ea Q E w k ks kx => by
    have hsw' : swapsWith (.ListComp elt [⟨target, iter, [], 0⟩] scope pos) (some (.Name n np)) spos.line env = pure true := by
      unfold swapOk at hsw
      rw [Bool.and_eq_true, Bool.and_eq_true, beq_iff_eq, beq_iff_eq] at hsw
      obtain ⟨⟨h1, h2⟩, h3⟩ := hsw
      have e1 : env.kindOf n = some .local := by unfold Env.kindOf; rw [hs]; exact h1
      have e2 : env.blockKind = .function := by unfold Env.blockKind; rw [hF.kind]; rfl
      show (pure (env.blockKind == .function && env.kindOf n == some .local && np.line == pos.line && !(scope.names.any fun p => p.1 == n && (p.2 == .local || p.2 == .cell))) : Sem Bool) = pure true
      rw [e1, e2, h2, h3, beq_self_eq_true, beq_self_eq_true, beq_self_eq_true]
      rfl
    rw [exec_Assign_Name_used _ _ _ _ hsw']
    refine wpAny_bind (wpAny_standAt (wpAny_bind ?_))
    refine wpAny_bind (wpAny_mono (comp_core (use := some (PySem.assign (PySem.Expr.Name n np) env)) (Q := fun _ s' => Q .next s') hS hE hT hk hset hs ha w k.ok (kx.toE hF k) fun D Cc σ₁ ow₁ s₁ x => ?_) (fun _ s' hq => wpAny_pure (wpAny_pure hq)) fun _ _ e => e)
    obtain ⟨av, σ₂, w', st, g, r⟩ := x.val k.ok.good
    obtain ⟨_, _, _, m, _, _, _, hns, _⟩ := x.ex
    have frC : s.heap.get? Cc = Option.none := x.fr Cc (by simp)
    have nf : ∀ b ∈ V.fs, b ∉ [Cc] := fun b m n => by
      obtain ⟨_, o, y⟩ := k.ok.good.mem b (V.sub b m)
      rw [List.mem_singleton.mp n, frC] at y; cases y
    have nz : ∀ b ∈ [Cc], b ∉ V.its := fun b m n => by
      obtain ⟨_, o, y⟩ := k.ok.good.mem b (List.mem_append_right _ n)
      rw [List.mem_singleton.mp m, frC] at y; cases y
    have k0 := k.stp hF st g.close_
    have l0 : LocOk C env nms (zss (V.plus [Cc])) (Own σ ow) s.heap ρ := ⟨k.ok.loc.kind, k.ok.loc.glob, k.ok.loc.blt, k.ok.loc.offL, fun j w e => by
      obtain ⟨y, val, ey, ry, ly⟩ := k.ok.loc.val j w e
      refine ⟨y, val, ey, ry.kp (fun _ _ e _ => e) (fun b z => ?_), ly⟩
      rcases z with z | z
      · exact .inl (.inl z)
      · rcases Vo.plus_mem z with z | z
        · exact .inl (.inr z)
        · exact .inr (by rw [List.mem_singleton.mp z]; exact frC)⟩
    have k1 : SOk C A false env (V.plus [Cc]) nms ρ σ₂ ow₁ s₁ := ⟨⟨g, LocOk.stp (envs := V.plus [Cc]) st l0 k.ok.live, .inl k.ok.hnd.none, k0.ok.live⟩, k0.ns, k0.cells⟩
    refine assign_Name (store_snd hF.plus hn k1 r fun s'' st' k' => ?_)
    have nO : ¬ Own σ₂ ow₁ Cc := g.off Cc (Vo.plus_wr (by simp))
    refine ⟨m, hns.at' fun o e => st'.keep Cc o e nO fun q => nf Cc q (by simp), fun h' hsb => ?_⟩
    have hk' : ∀ b o, b ∉ [Cc] → s''.heap.get? b = some o → h'.get? b = some o := fun b o nb e => hsb.extBut b o (fun q => nb (by rw [q]; simp)) e
    exact ks _ _ _ σ₂ ow₁ _ w' (SStp.its (t := s''.toks) (st.toS.trans st') nf hk' fun b m => by rw [List.mem_singleton.mp m]; exact frC) (k'.drop hF nz hk') .next
end
end Ap
end
section
set_option Elab.async false
set_option genSizeOf false
set_option linter.unusedVariables false
set_option linter.unusedSimpArgs false
set_option linter.unusedSectionVars false
namespace Ap
open PySem PySem.Calls PyProof.Rows
def oList (own : Bool) : ON := fun vs σ Q => ∃ v xs, vs = [v] ∧ seqOf σ v = some xs ∧ mkL own xs σ Q
def oAll : ON := fun vs σ Q => ∃ bs : List Bool, vs = [.ilist (bs.map .bool)] ∧ Q (.bool (bs.all id)) σ
def oIsiL : O1 := fun v σ Q => ∃ a xs, v = .obj a ∧ σ a = some (.list xs) ∧ Q (.bool true) σ
section
variable {C : Cx} {T : Tabs} {P : Prg} {d : Nat} {sc : Scope} {nms : List Str} {q : Bool}
theorem Both.ite {c a b : WE} {y z u : Expr} {pos : Pos} (hc : Both C d sc nms q c y) (h1 : Both C d sc nms q a z) (h2 : Both C d sc nms q b u) : Both C d sc nms q (vIte c a b) (.IfExp y z u pos) where
  ev := fun A env envs ρ hs ha σ ow s Qa Ea Q E w ok kv kx => by
    refine wpAny_IfExp (hc.tr A env envs ρ hs ha σ ow s _ Ea _ E w ok (fun v t σ' ow' s' z st g r => ?_) kx)
    have r' : t = v := r
    subst r'
    cases t with
    | true => exact h1.ev A env envs ρ hs ha σ' ow' s' _ Ea _ E z (ok.stp st g) (kv.stp st) (kx.stp st g)
    | false => exact h2.ev A env envs ρ hs ha σ' ow' s' _ Ea _ E z (ok.stp st g) (kv.stp st) (kx.stp st g)
  tr := fun A env envs ρ hs ha σ ow s Qa Ea Q E w ok kv kx => by
    rw [arm_isTrue_IfExp]
    refine wpAny_bind (hc.tr A env envs ρ hs ha σ ow s _ Ea _ E w ok (fun v t σ' ow' s' z st g r => ?_) kx)
    have r' : t = v := r
    subst r'
    cases t with
    | true => exact h1.tr A env envs ρ hs ha σ' ow' s' _ Ea _ E z (ok.stp st g) (kv.stp st) (kx.stp st g)
    | false => exact h2.tr A env envs ρ hs ha σ' ow' s' _ Ea _ E z (ok.stp st g) (kv.stp st) (kx.stp st g)
theorem mkL_grown {envs : Vo} {σ : St} {ow : Nat → Option Nat} {s : Shared} {Qa : PQ} {Q : Value → Shared → Prop} {own : Bool} {xs : List AV} {vs : List Value} {h' : Heap} {t n : Nat} (g : Good C envs σ ow s) (k : KV C envs σ ow s (RV C) Qa Q) (e : ∀ b o, s.heap.get? b = some o → h'.get? b = some o) {a : Addr} (na : s.heap.get? a = Option.none)
    (ha : h'.get? a = some (lstO vs n)) (hz : vs.length ≤ 16777216) (w : mkL own xs σ Qa) (r : VRs C (Zs σ ow (zss envs)) s.heap xs vs) : Q (.ref a) { s with heap := h', toks := t } := by
  have li : IsL h' a vs := ⟨hz, n, ha⟩
  have nf : a ∉ zss envs := fun m => by
    obtain ⟨_, o, e'⟩ := g.mem _ m
    rw [na] at e'; cases e'
  have no : ¬ Own σ ow a := fun q => by obtain ⟨o, z⟩ := g.live q; rw [na] at z; cases z
  have sx : σ a = Option.none := by
    cases z : σ a with
    | none => rfl
    | some o => exact absurd (.inl (by rw [z]; rfl)) no
  cases own with
  | false => exact k.grown g e w (.ilist li (fun q => q.elim no nf) (r.kp (fun b o z _ => e b o z) (Zg.refl _ _)))
  | true => exact k _ _ _ ow _ (w a sx) (Stp.alloc e na t) (g.alloc (o := .list xs) e na nf ha ⟨vs, li, r.kp (fun b o z _ => e b o z) (zs_upd (.inl na))⟩ t) (.obj _)
theorem bi_list {own : Bool} : BiSnd C true (.type "list") (oList own) := by
  intro A envs σ ow s Qa Q E vs vals hq g k r w
  obtain ⟨v, xs, rfl, e, w⟩ := w
  cases r with | cons r1 r2 =>
  cases r2
  obtain ⟨l, vs, rfl, ⟨hz, n, e'⟩, rr, _⟩ := seqOf_isL g r1 e
  refine call_list_seq l (.inl rfl) e' rfl rfl (fun h' c' e ha => ?_) (by rw [List.size_toArray]; unfold sizeLine; omega)
  obtain ⟨hh, gg, dd, tt, oo⟩ := s
  exact mkL_grown (n := c') g k e (Heap.fresh _) ha hz w rr
theorem boolsAre {Z : Nat → Prop} {h : Heap} : ∀ {bs : List Bool} {vs : List Value}, VRs C Z h (bs.map .bool) vs → vs = bs.map .bool := by
  intro bs
  induction bs with
  | nil => intro vs r; cases r; rfl
  | cons b bs ih =>
    intro vs r
    cases r with | cons hd tl =>
    cases hd
    rw [ih tl]; rfl
theorem bi_all : BiSnd C false (.builtin "all") oAll := by
  intro A envs σ ow s Qa Q E vs vals hq g k r w
  obtain ⟨bs, rfl, w⟩ := w
  cases r with | cons r1 r2 =>
  cases r2
  cases r1 with | ilist li off r =>
  have e0 := boolsAre r
  subst e0
  rename_i l
  have hl := li.isList
  have hlt : l < s.heap.objs.size := by obtain ⟨_, e, _⟩ := hl; exact Heap.lt_size e
  refine call_all_walk (wpAny_pyIter_list hl ?_)
  refine ⟨s.heap.objs.size, [s.heap.objs.size, l], [s.heap.objs.size], (bs.map Value.bool).toArray.size, _, _, fun i => (bs[i]?).getD true, rfl, Walks.list (A := A.in1) (hq rfl) _ l (Nat.ne_of_lt hlt) (bs.map Value.bool).toArray,
    ⟨⟨_, Heap.get?_push_size _ rfl, rfl, rfl⟩, hl.push _⟩, fun i v s' Q' E' hP hQ => ?_, fun h' tk hk => ?_⟩
  · have hP' : (bs.map Value.bool)[i]? = some v := by simpa using hP
    rw [List.getElem?_map, Option.map_eq_some_iff] at hP'
    obtain ⟨b, e, rfl⟩ := hP'
    simp only [e, Option.getD_some] at hQ
    exact wpAny_truthy_bool hQ
  · have e : ((List.range (bs.map Value.bool).toArray.size).all fun i => (bs[i]?).getD true) = bs.all id := by
      rw [List.size_toArray, List.length_map]; exact LSm.range_all bs
    rw [e]
    exact k.grown g (LSm.kept_iter hk) w (.bool _)
theorem isi_L (X : CxOk C T P) {e : WE} {y : Expr} {n z : Str} {np zp pos : Pos} (he : Both C d sc nms q e y) (hst : notStar y = true) (hn : n = ("isinstance" : Str)) (hb : n ∈ T.bltN) (h3 : gl sc n = true) (hz : bootBuiltins z = some (tyV .list)) (hb' : z ∈ T.bltN) (h3' : gl sc z = true) :
    Both C d sc nms q (vO1 oIsiL e) (.Call (.Name n np) [y, .Name z zp] [] pos) :=
  .isiG X he hst hn hb h3 (fun A env envs ρ σ ow s Q E hs ok hq => by
    obtain ⟨g1, g2, g3⟩ := gl_of h3'
    exact bname X (by unfold Env.kindOf; rw [hs]; exact g1) g2 ok hb' g3 hz hq) fun A envs σ ow s Qa Q E v u g k r w => by
    obtain ⟨a, xs, rfl, e, w⟩ := w
    cases r
    obtain ⟨vs, ⟨_, m, hx⟩, _⟩ := g.store _ _ e
    exact IsiPair.list_list hx rfl (k.val g _ w (.bool _))
end
end Ap
end
section
set_option Elab.async false
set_option genSizeOf false
set_option linter.unusedVariables false
set_option linter.unusedSimpArgs false
set_option linter.unusedSectionVars false
namespace Ap
open PySem PySem.Calls PyProof.Rows
section
variable {C : Cx} {T : Tabs} {P : Prg} {d : Nat} {sc : Scope} {nms nms' : List Str} {q : Bool} {A : Around} {V : Vo} {σ σ' : St} {ow ow' : Nat → Option Nat} {s s' : Shared} {env : Env} {outer : List Env}
end
end Ap
end
section
set_option Elab.async false
set_option genSizeOf false
set_option linter.unusedVariables false
set_option linter.unusedSimpArgs false
set_option linter.unusedSectionVars false
namespace Ap
open PySem PySem.Calls PyProof.Rows
section
variable {C : Cx} {T : Tabs} {P : Prg} {d : Nat} {sc : Scope} {nms nms' : List Str} {q : Bool} {A : Around} {V : Vo} {σ σ' : St} {ow ow' : Nat → Option Nat} {s s' : Shared} {env : Env} {outer : List Env}
end
end Ap
end
section
set_option Elab.async false
set_option genSizeOf false
set_option linter.unusedVariables false
namespace Ap
open PySem PySem.Calls PyProof.Rows
section
variable {C : Cx} {T : Tabs} {P : Prg} {d : Nat} {sc : Scope} {nms : List Str} {q : Bool}
theorem boot_list : bootBuiltins (Str.ofString "list") = some (tyV .list) := by decide +kernel
theorem bok_List {own : Bool} : BiOk C true (Str.ofString "list") (oList own) := ⟨⟨_, by decide +kernel, .inr ⟨_, rfl⟩, bi_list⟩⟩
theorem bok_All : BiOk C false (Str.ofString "all") oAll := ⟨⟨_, by decide +kernel, .inl ⟨_, rfl⟩, bi_all⟩⟩
end
end Ap
end
section
set_option Elab.async false
set_option linter.unusedVariables false
set_option linter.unusedSimpArgs false
namespace Ap
open PySem
section
variable {F : Calls} {ρ : Loc} {σ : St} {Q : PQ} {E : PE} {QQ : QS} {EE : ES} {K : Bool → Prop} {KX : List AV → (St → Prop) → St → Prop} {G : St → Prop} {a b c e : WE} {es : WL} {src : WX} {A B : WS} {l n m i j : Nat} {x y : Int} {u v : AV} {vs xs ys : List AV} {D : List (Int × AV)} {M : List (Str × AV)} {z : Bool} {caps : List Nat} {tb : TB} {f : OM} {rc : AV → St → Prop}
theorem e_lstO : kLst true Q vs σ = ∀ a, σ a = Option.none → Q (.obj a) (upd σ a (.list vs)) := rfl
theorem e_bm : vBm rc f e es ρ σ Q E = e ρ σ (kBm rc f es ρ Q E) E := rfl
theorem e_kBm2 : kBm2 f v Q vs σ = f v vs σ Q := rfl
theorem x_kBm (h : rc v σ) : kBm rc f es ρ Q E v σ = es ρ σ (kBm2 f v Q) E := propext ⟨fun h => h.2, fun w => ⟨h, w⟩⟩
theorem x_append (h : σ l = some (.list xs)) (h' : xs.length ≤ 1000000) : oAppend (.obj l) [v] σ Q = Q .none (upd σ l (.list (xs ++ [v]))) := propext ⟨fun ⟨_, _, _, e1, e2, e3, _, q⟩ => by cases e1; cases e2; rw [h] at e3; cases e3; exact q, fun q => ⟨_, _, _, rfl, rfl, h, h', q⟩⟩
theorem s_forX : sForX n src A ρ σ QQ EE = src ρ σ (kForX n A ρ QQ EE) (kE EE ρ) := rfl
theorem s_kForX : kForX n A ρ QQ EE xs G σ = forL G (bOne n A EE) xs ρ σ QQ := rfl
theorem e_xRange : xRange es ρ σ KX E = es ρ σ (kXR KX) E := rfl
theorem x_kXR1 : kXR KX [.int y] σ = ((y.natAbs < 2 ^ 60 ∧ y ≤ 1000000) ∧ KX (rangeL 0 y) (fun _ => True) σ) := propext ⟨fun ⟨_, _, e, h, q⟩ => by cases e; exact ⟨⟨h.2.1, by have := h.2.2; omega⟩, q⟩, fun ⟨h, q⟩ => ⟨_, _, rfl, ⟨by decide, h.1, by have := h.2; omega⟩, q⟩⟩
theorem e_xList : xList e ρ σ KX E = e ρ σ (kXL KX) E := rfl
theorem x_kXLi : kXL KX (.ilist xs) σ = KX xs (guardOf (.ilist xs) xs) σ := propext ⟨fun ⟨_, e, q⟩ => by cases e; exact q, fun q => ⟨_, rfl, q⟩⟩
theorem x_kXLo (h : σ l = some (.list xs)) : kXL KX (.obj l) σ = KX xs (guardOf (.obj l) xs) σ := propext ⟨fun ⟨_, e, q⟩ => by have := seqOf_obj e; rw [h] at this; cases this; exact q, fun q => ⟨_, by show (match σ l with | some (.list xs) => some xs | _ => Option.none) = some xs; rw [h], q⟩⟩
theorem e_comp : vComp z src tb caps e ρ σ Q E = ((caps.all fun i => (getL ρ i).isSome) = true ∧ src ρ σ (kComp z tb e (maskL caps ρ) Q) E) := rfl
theorem e_kComp : kComp z tb e ρ Q xs G σ = compL G (bCmp tb e ρ) xs [] σ (kCmpE z Q) := rfl
theorem e_kCmpE0 : kCmpE false Q xs σ = Q (.ilist xs) σ := rfl
theorem x_bCmp : bCmp (tb1 n) e ρ v σ Q = e (setL ρ n v) σ Q eNo := propext ⟨fun ⟨_, e, q⟩ => by cases e; exact q, fun q => ⟨_, rfl, q⟩⟩
theorem x_listO (h : σ l = some (.list xs)) : oList z [.obj l] σ Q = mkL z xs σ Q := propext ⟨fun ⟨_, _, e1, e2, q⟩ => by cases e1; have := seqOf_obj e2; rw [h] at this; cases this; exact q, fun q => ⟨_, _, rfl, by show (match σ l with | some (.list xs) => some xs | _ => Option.none) = some xs; rw [h], q⟩⟩
theorem e_mkLi : mkL false xs σ Q = Q (.ilist xs) σ := rfl
theorem e_mkLo : mkL true xs σ Q = ∀ a, σ a = Option.none → Q (.obj a) (upd σ a (.list xs)) := rfl
theorem x_isiL (h : σ l = some (.list xs)) : oIsiL (.obj l) σ Q = Q (.bool true) σ := propext ⟨fun ⟨_, _, _, _, q⟩ => q, fun q => ⟨_, _, rfl, h, q⟩⟩
theorem forL_idx {G : St → Prop} {B : AV → Loc → St → QS → Prop} (I : Nat → Loc → St → Prop) : ∀ (xs : List AV) (k : Nat),
    (∀ i x, xs[i]? = some x → ∀ ρ σ R, I (k + i) ρ σ → (∀ ρ' σ', I (k + i + 1) ρ' σ' → R .next ρ' σ') → G σ ∧ B x ρ σ R) → (∀ ρ σ, I (k + xs.length) ρ σ → G σ ∧ QQ .next ρ σ) → ∀ ρ σ, I k ρ σ → forL G B xs ρ σ QQ := by
  intro xs
  induction xs with
  | nil => intro k _ h2 ρ σ hi; exact h2 ρ σ hi
  | cons x xs ih =>
    intro k h1 h2 ρ σ hi
    refine h1 0 x rfl ρ σ _ hi fun ρ' σ' hi' => ih (k + 1) (fun i y hy ρ σ R hj hR => h1 (i + 1) y hy ρ σ R (by rw [show k + (i + 1) = k + 1 + i by omega]; exact hj) fun ρ' σ' hk => hR ρ' σ' (by rw [show k + 1 + i + 1 = k + (i + 1) + 1 by omega]; exact hk)) (fun ρ σ hj => h2 ρ σ (by rw [List.length_cons, show k + (xs.length + 1) = k + 1 + xs.length by omega]; exact hj)) ρ' σ' hi'
theorem compL_all {G : St → Prop} {B : AV → St → PQ → Prop} {R : List AV → St → Prop} (T : AV → Prop) (hG : G σ) : ∀ (xs acc : List AV), (∀ x ∈ xs, ∀ R : PQ, (∀ y, T y → R y σ) → B x σ R) → (∀ ys : List AV, ys.length = xs.length → (∀ y ∈ ys, T y) → R (acc ++ ys) σ) → compL G B xs acc σ R := by
  intro xs
  induction xs with
  | nil => intro acc _ h; exact ⟨hG, by have := h [] rfl (fun y hy => nomatch hy); rw [List.append_nil] at this; exact this⟩
  | cons x xs ih =>
    intro acc h1 h2
    refine ⟨hG, h1 x List.mem_cons_self _ fun y hy => ih (acc ++ [y]) (fun z hz => h1 z (List.mem_cons_of_mem _ hz)) fun ys e hys => ?_⟩
    rw [List.append_assoc]
    exact h2 (y :: ys) (congrArg Nat.succ e) fun z hz => (List.mem_cons.mp hz).elim (fun q => q ▸ hy) (hys z)
end
end Ap
end
section
set_option Elab.async false
set_option linter.unusedVariables false
set_option linter.unusedSimpArgs false
set_option linter.unusedSectionVars false
namespace Ap
open PySem PySem.Calls PyProof.Rows
def GlobOk (C : Cx) (gs : List (Str × AV)) : Prop := ∀ x v, (x, v) ∈ gs → ∃ u, C.mg x = some u ∧ VR C (fun _ => False) C.base v u
noncomputable def intsOf : List AV → Option (List Int) := mapO fun v => match v with | .int i => some i | _ => Option.none
def oIdxO : O2 := fun a b σ Q => ∃ l xs i, a = .obj l ∧ b = .int i ∧ σ l = some (.list xs) ∧ 0 ≤ i ∧ lookV Q σ xs[i.toNat]?
section
variable {C : Cx} {T : Tabs} {P : Prg} {F : Calls} {d : Nat} {sc : Scope} {nms : List Str} {q : Bool} {gs : List (Str × AV)}
theorem Both.glob (X : CxOk C T P) (Y : GlobOk C gs) {i : Nat} {x : Str} {v : AV} {pos : Pos} (hm : gs[i]? = some (x, v)) (h3 : gl sc x = true) : Both C d sc nms q (vC v) (.Name x pos) :=
  .of rfl fun A env envs ρ hs ha σ ow s Qa Ea Q E w ok kv kx => by
    obtain ⟨u, e, r⟩ := Y x v (List.mem_of_getElem? hm)
    obtain ⟨g1, g2, g3⟩ := gl_of h3
    exact gname X (by unfold Env.kindOf; rw [hs]; exact g1) g2 ok e (kv.here ok.good w (ok.good.baseVR r))
theorem intsOf_vrs {Z : Nat → Prop} {h : Heap} : ∀ {ys : List AV} {vs : List Value} {ns : List Int}, VRs C Z h ys vs → intsOf ys = some ns → IntsAre vs ns := by
  intro ys
  induction ys with
  | nil => intro vs ns r e; cases r; cases e; exact .nil
  | cons y ys ih =>
    intro vs ns r e
    cases r with | cons hd tl =>
    obtain ⟨d, e1, e2⟩ := Option.bind_eq_some_iff.mp e
    obtain ⟨ds, e3, rfl⟩ := Option.map_eq_some_iff.mp e2
    cases hd <;> first | cases e1 | skip
    exact .cons _ _ (ih tl e3)
theorem idx_O : IdxSnd C oIdxO := by
  intro A envs σ ow s Qa Q E va vb a b value slice hp g k ra rb w
  obtain ⟨l, xs, i, rfl, rfl, hs, h0, w⟩ := w
  cases ra
  cases rb
  obtain ⟨vs, li, r⟩ := g.store l _ hs
  obtain ⟨v, e, w'⟩ := lookV_some w
  obtain ⟨u, e', r'⟩ := r.get _ _ e
  have hlt := (List.getElem?_eq_some_iff.mp e').1
  have hz := li.1
  exact tail_any li.isList.typeIs slot_list_getitem.lookup (wpAny_getItem_list li.isList h0 (by omega) (by rw [List.getElem?_toArray]; exact e') (k.here g w' r')) (hp _ _)
end
inductive NamesAre (nms : List Str) : List Expr → List Nat → Prop
  | nil : NamesAre nms [] []
  | cons {n : Str} {p : Pos} {i : Nat} {es : List Expr} {is : List Nat} : nms[i]? = some n → NamesAre nms es is → NamesAre nms (.Name n p :: es) (i :: is)
section
variable {C : Cx} {T : Tabs} {P : Prg} {F : Calls} {d : Nat} {sc : Scope} {nms : List Str} {q : Bool}
theorem NamesAre.len {es : List Expr} {is : List Nat} (h : NamesAre nms es is) (env : Env) : (assignEach es env).length = is.length ∧ (assignEach es env).findIdx? (·.1) = Option.none := by
  induction h with
  | nil => exact ⟨rfl, rfl⟩
  | cons _ _ ih =>
    refine ⟨congrArg Nat.succ ih.1, ?_⟩
    show List.findIdx? (·.1) ((false, _) :: assignEach _ env) = Option.none
    rw [List.findIdx?_cons, ih.2]; rfl
theorem law_endG {K : PySem.W.Frag} {T : Tabs} {P : Prg} {fa ca : List Addr} {prog : Program} {w : World} {s₁ : Shared} {mg mb : Str → Option Value} {p : Params} (X : K.In s₁.heap) (g : s₁.heap.Ns mainGlobals mg) (b : s₁.heap.Ns builtinsNs mb) (nl : s₁.heap.NoLimit)
    (bt : ∀ x : Str, x ≠ "__name__" → mb x = bootBuiltins x) (D : KDat K T P fa ca) {R : Cx → Prop} (hY : R (cxOf prog w s₁.heap mg mb T P fa ca))
    (hB : ∀ C, CxOk C T P → R C → ∀ (F : Calls) (d : Nat), SndF C P d F → ∀ (f : Nat) (fi : FnI) (ft : FnT), P.fns[f]? = some fi → T.fts[f]? = some ft → BothB C d ft.sc ft.nms fi.quiet (fi.body F) ft.body)
    (hg : s₁.gens = #[]) {f : Nat} {l : Addr} {ns : List Int} (hW : PySem.W.Well p s₁.heap (.ref l) (.list (ns.map fun n => PySem.W.WData.int n))) (hn : ns.length ≤ 63) {d : Nat} (hd : d ≤ 100)
    (hw : wpF P d f [.ilist (ns.map .int)] (fun _ => Option.none) (fun v _ => v = .bool true) fun _ _ => False) :
    codeAny (model prog w) callerA (.call (.ref (fa.getD f 0)) ⟨[.ref l], []⟩) (fun r s' => r = .ok (.ret (.bool true)) ∧ (∀ b o, s₁.heap.get? b = some o → s'.heap.get? b = some o) ∧ s'.os = s₁.os ∧ s'.gens = #[]) s₁ := by
  have CX := cxOk_of (prog := prog) (w := w) X g b nl bt D
  have F := wpF_snd CX (fun f fi ft h1 h2 => List.all_eq_true.mp D.sh (fi, ft) (zip_get h1 h2)) (hB _ CX hY) d
  have G : Good (cxOf prog w s₁.heap mg mb T P fa ca) ⟨[], [], []⟩ (fun _ => Option.none) (fun _ => Option.none) s₁ :=
    ⟨fun _ _ e => e, trivial, fun b m => absurd m (by simp), fun b m => absurd m (by simp [zss]), fun e m => absurd m (by simp), fun a o e => by simp at e, fun b a e => by simp at e, fun a e => by simp at e, fun L m => absurd m (by simp [zss]), hg⟩
  cases hW with
  | list at_ all =>
    have hr := wellInts (C := cxOf prog w s₁.heap mg mb T P fa ca) (Z := Zs (fun _ => Option.none) (fun _ => Option.none) (zss ⟨[], [], []⟩)) all
    have hl := hr.length
    rw [List.length_map] at hl
    refine F f [.ilist (ns.map .int)] [.ref l] _ _ s₁ _ _ _ callerA ⟨[], [], []⟩ hw G ⟨rfl, ?_, ?_⟩ (.inl rfl) (.cons (.ilist ⟨by omega, _, at_⟩ ?_ hr) .nil) (fun v av σ' ow' s' q st g' r => ?_) (fun e c σ' ow' s' q => q.elim)
    · show 1 + claimMargin + 3 * d < recursionLimit
      have : 1 + claimMargin + 300 < recursionLimit := by decide
      omega
    · show 4 + 20 * d + 100 < cLine
      have : 4 + 2000 + 100 < cLine := by decide
      omega
    · rintro (z | z)
      · rcases z with z | z <;> simp at z
      · simp [zss] at z
    · subst q
      cases r
      exact ⟨rfl, fun b o e => g'.stays b o e, st.os, g'.gens⟩
theorem GlobOk.cons {x : Str} {v : AV} {gs : List (Str × AV)} {u : Value} (h : C.mg x = some u) (r : VR C (fun _ => False) C.base v u) (y : GlobOk C gs) : GlobOk C ((x, v) :: gs) := fun x' v' m => by
  rcases List.mem_cons.mp m with e | m
  · cases e; exact ⟨u, h, r⟩
  · exact y x' v' m
theorem GlobOk.nil : GlobOk C [] := fun x v m => nomatch m
end
end Ap
end
section
set_option Elab.async false
set_option linter.unusedVariables false
set_option linter.unusedSimpArgs false
set_option linter.unusedSectionVars false
namespace Ap
open PySem PySem.Calls PyProof.Rows
section
variable {C : Cx} {T : Tabs} {P : Prg} {F : Calls} {d : Nat} {sc : Scope} {nms : List Str} {q : Bool}
end
end Ap
end
section
set_option Elab.async false
set_option linter.unusedVariables false
set_option linter.unusedSimpArgs false
set_option linter.unusedSectionVars false
namespace Ap
open PySem PySem.Calls PyProof.Rows PySem.NumText
abbrev cs (x : Str) : List Nat := x.cps.toList
section
variable {C : Cx} {T : Tabs} {P : Prg} {F : Calls} {d : Nat} {sc : Scope} {nms : List Str} {q : Bool}
end
end Ap
end
section
set_option Elab.async false
set_option linter.unusedVariables false
set_option linter.unusedSimpArgs false
set_option linter.unusedSectionVars false
namespace Ap
open PySem PySem.Calls PyProof.Rows
def GDOk (C : Cx) (n : Str) (keys : List Str) : Prop := ∃ a f, C.mg n = some (.ref a) ∧ (a == sysModules) = false ∧ C.base.MapOf (strKind C.prog C.w) a f ∧ ∀ x, (f x).isSome = keys.any (· == x)
def GDs (C : Cx) (gds : List (Str × List Str)) : Prop := ∀ n keys, (n, keys) ∈ gds → GDOk C n keys
def kXT (K : List AV → (St → Prop) → St → Prop) : PQ := fun v σ => ∃ xs, v = .tup xs ∧ K xs (fun _ => True) σ
def xTup (e : WE) : WX := fun ρ σ K E => e ρ σ (kXT K) E
section
variable {C : Cx} {T : Tabs} {P : Prg} {F : Calls} {d : Nat} {sc : Scope} {nms : List Str} {q : Bool} {gds : List (Str × List Str)}
theorem GDs.nil : GDs C [] := fun _ _ m => nomatch m
theorem GDs.cons {n : Str} {keys : List Str} {gds : List (Str × List Str)} (h : GDOk C n keys) (y : GDs C gds) : GDs C ((n, keys) :: gds) := fun n' k' m => by
  rcases List.mem_cons.mp m with e | m
  · cases e; exact h
  · exact y n' k' m
theorem SrcE.tup {e : WE} {v : Expr} {nm : Str} {pp : Pos} (he : Both C d sc nms false e v) : SrcE C d sc nms false (.Name nm pp) v (xTup e) where
  snd := fun A env V ρ hs ha σ ow s K Ea Q E w ok kx hQ => by
    refine he.ev A env V ρ hs ha σ ow s _ _ _ E w ok (fun u av σ' ow' s' z st g r => ?_) kx
    obtain ⟨xs, rfl, z⟩ := z
    cases r with | tup li off rr =>
    rename_i l vs
    obtain ⟨hh, gg, dd, tt, oo⟩ := s'
    have hz := li.1
    have hlen := rr.length
    obtain ⟨_, n, hg⟩ := id li
    have hne : l ≠ hh.objs.size := Nat.ne_of_lt (Heap.lt_size hg)
    have nI : hh.get? hh.objs.size = Option.none := Heap.fresh _
    refine wpAny_pyIter_tuple li.isTuple ?_
    have gr : ∀ b o', hh.get? b = some o' → (hh.push { cls := .type "tuple_iterator", data := .fields #[.ref l, .int 0 0] }).get? b = some o' := fun _ _ e => Heap.get?_push_of_some _ e
    have fr : ∀ c ∈ [hh.objs.size], hh.get? c = Option.none ∧ ∃ o', (hh.push { cls := .type "tuple_iterator", data := .fields #[.ref l, .int 0 0] }).get? c = some o' := fun c m => by
      rw [List.mem_singleton.mp m]
      exact ⟨nI, _, Heap.get?_push_size _ rfl⟩
    have ko := (ok.stp st g).open_ (t := tt) (wr := [hh.objs.size]) gr fr
    have zg : Zg (Zs σ' ow' (zss V)) (Zs σ' ow' (zss (V.plus [hh.objs.size]))) hh := fun b y => by
      rcases y with y | y
      · exact .inl (.inl y)
      · rcases Vo.plus_mem y with y | y
        · exact .inl (.inr y)
        · exact .inr (fr b y).1
    refine hQ _ _ _ _ _ σ' ow' _ z (SrcI.ofW (Walks.tuple ok.hnd.none hh.objs.size l hne vs.toArray) (by rw [List.size_toArray]; exact hlen.symm) (fun i h e b hb => ?_)) (st.trans (Stp.ext gr tt)) ko ⟨?_, fun c hc => ?_, fun j y v hj hp => ?_⟩ (fun c m => st.back rfl g c (fr c m).1) (by omega)
    · rw [List.mem_singleton.mp hb]
      obtain ⟨⟨o, e, _⟩, _⟩ := e
      exact ⟨o, e⟩
    · exact ⟨⟨_, Heap.get?_push_size _ rfl, rfl, rfl⟩, ⟨_, gr _ _ hg, rfl, n, rfl⟩⟩
    · rcases List.mem_cons.mp hc with e | hc
      · exact .inl (List.mem_singleton.mpr e)
      · rw [List.mem_singleton.mp hc]
        exact .inr ⟨zg.not hg off, _, gr _ _ hg⟩
    · obtain ⟨u, hu, r1⟩ := (rr.kp (fun b o e _ => gr b o e) zg).get j y hj
      have : v = u := by
        have hp' : vs.toArray[j]? = some v := hp
        rw [List.getElem?_toArray, hu] at hp'
        cases hp'; rfl
      rw [this]; exact r1
end
end Ap
end
section
set_option Elab.async false
set_option linter.unusedVariables false
set_option linter.unusedSimpArgs false
set_option linter.unusedSectionVars false
namespace Ap
open PySem PySem.Calls PyProof.Rows
def kCLF (go : List AV → St → (List AV → St → Prop) → Prop) (acc : List AV) (Q : List AV → St → Prop) : Option AV → St → Prop := fun o σ => match o with
  | some y => go (acc ++ [y]) σ Q
  | Option.none => go acc σ Q
def compLF (G : St → Prop) (B : AV → St → (Option AV → St → Prop) → Prop) : List AV → List AV → St → (List AV → St → Prop) → Prop
  | [], acc, σ, Q => G σ ∧ Q acc σ
  | v :: vs, acc, σ, Q => G σ ∧ B v σ (kCLF (compLF G B vs) acc Q)
def kSome (R : Option AV → St → Prop) : PQ := fun y σ => R (some y) σ
def kCF (ew : WE) (ρ : Loc) (R : Option AV → St → Prop) : Bool → St → Prop := fun t σ => match t with
  | true => ew ρ σ (kSome R) eNo
  | false => R Option.none σ
def bCmpF (tb : TB) (cw ew : WE) (ρ : Loc) : AV → St → (Option AV → St → Prop) → Prop := fun v σ R => ∃ ρ', tb v ρ = some ρ' ∧ cw ρ' σ (onT (kCF ew ρ' R)) eNo
def kCompF (own : Bool) (tb : TB) (cw ew : WE) (ρ : Loc) (Q : PQ) : List AV → (St → Prop) → St → Prop := fun xs G σ => compLF G (bCmpF tb cw ew ρ) xs [] σ (kCmpE own Q)
def vCompF (own : Bool) (src : WX) (tb : TB) (caps : List Nat) (cw ew : WE) : WE := fun ρ σ Q E => (caps.all fun i => (getL ρ i).isSome) = true ∧ src ρ σ (kCompF own tb cw ew (maskL caps ρ) Q) E
def kListR (own : Bool) (Q : PQ) : List AV → St → Prop := fun vs σ => ∃ a b, rngOf vs = some (a, b) ∧ (a.natAbs < 2 ^ 60 ∧ b.natAbs < 2 ^ 60 ∧ b - a ≤ 1000000) ∧ mkL own (rangeL a b) σ Q
def vListR (own : Bool) (es : WL) : WE := fun ρ σ Q E => es ρ σ (kListR own Q) E
def oLenO : ON := fun vs σ Q => ∃ l xs, vs = [.obj l] ∧ σ l = some (.list xs) ∧ Q (.int xs.length) σ
def cInL : OC := fun a b σ K => ∃ x ys ns, a = .int x ∧ b = .ilist ys ∧ intsOf ys = some ns ∧ K (ns.any (· == x))
section
variable {C : Cx} {T : Tabs} {P : Prg} {d : Nat} {sc : Scope} {nms nms' : List Str} {q : Bool} {A : Around} {V : Vo} {σ σ' : St} {ow ow' : Nat → Option Nat} {s s' : Shared} {env : Env}
theorem compLF_G {G : St → Prop} {B : AV → St → (Option AV → St → Prop) → Prop} {xs acc : List AV} {R : List AV → St → Prop} (h : compLF G B xs acc σ R) : G σ := by
  cases xs with
  | nil => exact h.1
  | cons x xs => exact h.1
theorem compLoop_if {prog : Program} {w : World} {R : Result → Shared → Prop} {elt target iter cnd : Expr} {scope : Scope} {pos : Pos} {it acc : Value} (I : Nat → Shared → Prop)
    (turn : ∀ n s, I n s → wpAny (model prog w) A (pyNext it) (fun r s₁ => match r with
      | Option.none => R (.ok .next) s₁
      | some v => wpAny (model prog w) A (letOwnedTupleGo target it v) (fun _ s₂ => wpAny (model prog w) A (assign target env v) (fun _ s₃ => wpAny (model prog w) A (isTrue cnd env (eval cnd env)) (fun okk s₄ =>
          if okk = true then wpAny (model prog w) A (eval elt env) (fun x s₅ =>
            wpAny (model prog w) A (call (.builtin "list.append") [acc, x]) (fun _ s₆ => ∃ m, m < n ∧ I m s₆) (notedBy (model prog w) A env fun e s' => R (.error e) s') s₅) (notedBy (model prog w) A env fun e s' => R (.error e) s') s₄
          else ∃ m, m < n ∧ I m s₄)
          (notedBy (model prog w) A env fun e s' => R (.error e) s') s₃) (notedBy (model prog w) A env fun e s' => R (.error e) s') s₂) (notedBy (model prog w) A env fun e s' => R (.error e) s') s₁) (notedBy (model prog w) A env fun e s' => R (.error e) s') s)
    (n : Nat) (h : I n s) : codeAny (model prog w) A (.compLoop (.ListComp elt [⟨target, iter, [cnd], 0⟩] scope pos) 0 it acc env) R s := by
  refine codeAny_loop rfl I (fun n s hI => ?_) n h
  show wpAny _ _ ((compTurn (.ListComp elt [⟨target, iter, [cnd], 0⟩] scope pos) 0 it acc env).onRaise (fun x => do noteFrame x env; theTreesLotGoes x)) _ _ s
  refine wpAny_noted ?_
  rw [compTurn_list]
  refine wpAny_bind (wpAny_standAt (wpAny_bind (wpAny_mono (turn n s hI) (fun r s₁ h₁ => ?_) fun _ _ h' => h')))
  cases r with
  | none => exact wpAny_pure h₁
  | some v =>
    refine wpAny_bind (wpAny_mono h₁ (fun _ s₂ h₂ => ?_) fun _ _ h' => h')
    refine wpAny_bind (wpAny_mono h₂ (fun _ s₃ h₃ => wpAny_bind (wpAny_tests_one (wpAny_mono h₃ (fun okk s₄ h₄ => ?_) fun _ _ h' => h'))) fun _ _ h' => h')
    cases okk with
    | false => exact wpAny_pure ⟨rfl, h₄⟩
    | true => exact wpAny_bind (wpAny_bind (wpAny_mono h₄ (fun x s₅ h₅ => wpAny_bind (wpAny_mono h₅ (fun _ s₆ h₆ => wpAny_pure (wpAny_pure ⟨rfl, h₆⟩)) fun _ _ h' => h')) fun _ _ h' => h'))
theorem comp_coreF {own : Bool} {cw : WE} {cnd : Expr} {src : WX} {tb : TB} {caps : List Nat} {ew : WE} {elt iter target : Expr} {scope : Scope} {pos pos' : Pos} {use : Option (Value → Sem Unit)} (hS : SrcE C d sc nms false target iter src) (hC : Both C d (relS scope sc) nms' false cw cnd) (hE : Both C d (relS scope sc) nms' false ew elt) (hT : TgtOk C (relS scope sc) nms' target tb)
    (hk : okComp scope sc nms nms' caps = true) (hset : notSet iter = true) {ρ : Loc} {Qa : PQ} {Ea : PE} {Q : Value → Shared → Prop} {E : Value → Shared → Prop} (hs : env.scope = sc) (ha : AOk A V d) (w : vCompF own src tb caps cw ew ρ σ Qa Ea) (ok : Ok C A false env V nms ρ σ ow s) (kx : KX C V σ ow s Ea E)
    (fin : ∀ D Cc σ₁ ow₁ s₁, CEnd C V own Qa σ ow s D Cc σ₁ ow₁ s₁ → compPost (model C.prog C.w) A E use Q (.ref D) Cc (.ok .next) s₁) :
    wpAny (model C.prog C.w) A (comprehension (.ListComp elt [⟨target, iter, [cnd], 0⟩] scope pos) scope env pos' (newList []) false (eval iter env) use) Q E s := by
  obtain ⟨hc, w⟩ := w
  have hh := ok.hnd.none
  unfold okComp at hk
  rw [Bool.and_eq_true, Bool.and_eq_true, beq_iff_eq] at hk
  obtain ⟨⟨hkind, hnm⟩, hcp⟩ := hk
  have hn1 : ∀ y ∈ scope.names, y.2 ≠ .cell ∧ (y.2 = .free → ∃ i ∈ caps, nms[i]? = some y.1) ∧ (y.2 = .local → scope.names.lookup y.1 = some .local) := fun y hy => by
    have := List.all_eq_true.mp hnm y hy
    rw [Bool.and_eq_true, Bool.and_eq_true, Bool.or_eq_true, Bool.or_eq_true, Bool.not_eq_true', Bool.not_eq_true', Bool.not_eq_true', beq_iff_eq] at this
    obtain ⟨⟨t1, t2⟩, t3⟩ := this
    refine ⟨(fun z => by rw [z] at t1; cases t1), fun z => ?_, fun z => t3.resolve_left (by rw [z]; decide)⟩
    obtain ⟨i, hi, e⟩ := List.any_eq_true.mp (t2.resolve_left (by rw [z]; decide))
    exact ⟨i, hi, beq_iff_eq.mp e⟩
  have hn2 : ∀ i ∈ caps, ∃ y v c val, (nms[i]? = some y ∧ nms'[i]? = some y ∧ (y, NameKind.free) ∈ scope.names ∧ ((relS scope sc).names.lookup y = some .cell ∨ (relS scope sc).names.lookup y = some .free)) ∧ getL ρ i = some v ∧ VR C (Zs σ ow (zss V)) s.heap v val ∧ env.cells.lookup y = some c ∧ s.heap.IsCell c (some val) ∧ ¬ Own σ ow c ∧ env.kindOf y ≠ some .local := fun i hi => by
    have h1 := List.all_eq_true.mp hcp i hi
    rw [Bool.and_eq_true, beq_iff_eq, beq_iff_eq, Option.map_eq_some_iff] at h1
    obtain ⟨e1, y, e2, h1⟩ := h1
    rw [Bool.and_eq_true, Bool.and_eq_true, Bool.or_eq_true, Bool.or_eq_true, beq_iff_eq, beq_iff_eq, beq_iff_eq, beq_iff_eq] at h1
    obtain ⟨⟨h1, h2⟩, h3⟩ := h1
    obtain ⟨v, e3⟩ := Option.isSome_iff_exists.mp (List.all_eq_true.mp hc i hi)
    obtain ⟨y', val, e4, r, l⟩ := ok.loc.val i v e3
    rw [e2] at e4
    cases e4
    have nl : env.kindOf y ≠ some .local := fun kd => by
      unfold Env.kindOf at kd
      rw [hs] at kd
      rcases h2 with h2 | h2 <;> rw [kd] at h2 <;> cases h2
    refine ⟨y, v, ?_⟩
    rcases l with ⟨kd, _⟩ | ⟨c, kd, hc', hv, ho⟩
    · exact absurd kd nl
    · exact ⟨c, val, ⟨e2, e1.trans e2, List.contains_iff_mem.mp h1, h3⟩, e3, r, hc', hv, ho, nl⟩
  obtain ⟨cl, hcl, hlk⟩ := closure_ok (env := env) (scope := scope) fun y hy hf => by
    obtain ⟨i, hi, e⟩ := (hn1 y hy).2.1 hf
    obtain ⟨y', v, c, val, ⟨e1, _⟩, _, _, hc', _⟩ := hn2 i hi
    rw [e] at e1
    cases e1
    exact ⟨c, hc'⟩
  refine wpAny_comprehension_free (use := use) rfl (fun x => folded_not hset) hcl hkind (fun y hy => (hn1 y hy).2.2) ?_
  refine hS.snd A env V ρ hs ha σ ow s _ Ea _ E w ok kx fun I wr xs G inv σ' ow' s' z S st ko hi fr hlen => ?_
  refine wpAny_newObj_type (wpAny_newFunctionEnv (fun y hy => (hn1 y hy).1) (by intro y hy; simp at hy) (fun h₁ hns₁ hsb₁ => ?_) hkind)
  dsimp only at hns₁ hsb₁ ⊢
  generalize hH2 : s'.heap.push { cls := .type "list", dict := Option.none, data := .seq ([] : List Value).toArray } = H2 at hns₁ hsb₁ ⊢
  have hCs : H2.objs.size = s'.heap.objs.size + 1 := by rw [← hH2, Heap.size_push]
  have hDC : s'.heap.objs.size ≠ H2.objs.size := by rw [hCs]; exact Nat.ne_of_lt (Nat.lt_succ_self _)
  have below : ∀ b, b < s'.heap.objs.size → b ≠ H2.objs.size ∧ b ≠ s'.heap.objs.size := fun b hb => ⟨by rw [hCs]; exact Nat.ne_of_lt (Nat.lt_succ_of_lt hb), Nat.ne_of_lt hb⟩
  have old : ∀ b o, s'.heap.get? b = some o → h₁.get? b = some o := fun b o e => hsb₁.extBut b o (below b (Heap.lt_size e)).1 (Heap.get?_push_of_some _ (hH2 ▸ Heap.get?_push_of_some _ e))
  have hacc : h₁.get? s'.heap.objs.size = some (lstO [] 0) := hsb₁.extBut _ _ hDC (Heap.get?_push_of_some _ (hH2 ▸ Heap.get?_push_size _ rfl))
  obtain ⟨D, hD⟩ : ∃ D, s'.heap.objs.size = D := ⟨_, rfl⟩
  obtain ⟨Cc, hCc⟩ : ∃ Cc, H2.objs.size = Cc := ⟨_, rfl⟩
  have frD : s'.heap.get? D = Option.none := by rw [← hD]; exact Heap.fresh _
  have frC : s'.heap.get? Cc = Option.none := by
    cases e : s'.heap.get? Cc with
    | none => rfl
    | some o => exact absurd hCc.symm (below Cc (Heap.lt_size e)).1
  rw [hD] at hDC hacc ⊢
  rw [hCc] at hDC hns₁ ⊢
  clear hD hCc hsb₁ below hCs hH2
  -- the vessel of the comprehension: its names, the list that it makes, what it runs over
  have e3 : (V.plus [Cc, D]).plus wr = V.plus (wr ++ [Cc, D]) := plus_plus V _ _
  have frx : ∀ b ∈ [Cc, D], s'.heap.get? b = Option.none ∧ ∃ o, h₁.get? b = some o := fun b hb => by
    rcases List.mem_cons.mp hb with rfl | hb
    · obtain ⟨o, es, ep, e, _⟩ := hns₁
      exact ⟨frC, o, e⟩
    · rw [List.mem_singleton.mp hb]
      exact ⟨frD, _, hacc⟩
  have fr3 : ∀ b ∈ wr ++ [Cc, D], s.heap.get? b = Option.none := fun b hb => by
    rcases List.mem_append.mp hb with hb | hb
    · exact fr b hb
    · exact st.back rfl ko.good.close_ b (frx b hb).1
  have k0 := ko.close_
  have nfs : ∀ b ∈ V.fs, b ∉ wr ++ [Cc, D] := fun b m n => by
    obtain ⟨_, o, y⟩ := ok.good.mem b (V.sub b m)
    rw [fr3 b n] at y; cases y
  have nits : ∀ b ∈ wr ++ [Cc, D], b ∉ zss V := fun b m n => by
    obtain ⟨_, o, y⟩ := ok.good.mem b n
    rw [fr3 b m] at y; cases y
  have Cw : Cc ∉ wr := fun m => by
    obtain ⟨_, o, y⟩ := ko.good.mem Cc (Vo.plus_wr m)
    rw [frC] at y; cases y
  have Dw : D ∉ wr := fun m => by
    obtain ⟨_, o, y⟩ := ko.good.mem D (Vo.plus_wr m)
    rw [frD] at y; cases y
  generalize hce : compEnvC scope cl Cc env = cenv
  have cL : cenv.locals = Cc := by rw [← hce]; rfl
  have cS : cenv.scope = relS scope sc := by rw [← hce, ← hs]; rfl
  have cC : cenv.cells = cl := by rw [← hce]; rfl
  have cG : cenv.globals = mainGlobals := by rw [← hce]; exact ok.loc.glob
  have cB : cenv.builtins = builtinsNs := by rw [← hce]; exact ok.loc.blt
  have g3 : Good C (V.plus (wr ++ [Cc, D])) σ' ow' { s' with heap := h₁, toks := s'.toks + ([] : List (Str × Value)).length } :=
    (ko.good.open_ (wr := [Cc, D]) old frx).re rfl rfl fun b => by
      show b ∈ (wr ++ [Cc, D]) ++ V.its ↔ b ∈ [Cc, D] ++ (wr ++ V.its)
      simp only [List.mem_append]
      constructor
      · rintro ((h | h) | h)
        · exact .inr (.inl h)
        · exact .inl h
        · exact .inr (.inr h)
      · rintro (h | h | h)
        · exact .inl (.inr h)
        · exact .inl (.inl h)
        · exact .inr h
  have hi1 := S.wide V [Cc, D] 0 σ' ow' s' h₁ (s'.toks + ([] : List (Str × Value)).length) hi (fun b hb => (frx b hb).1) old
  have cap0 : CapOk C cenv nms' (V.plus (wr ++ [Cc, D])) (wr ++ [Cc, D]) (maskL caps ρ) σ' ow' { s' with heap := h₁, toks := s'.toks + ([] : List (Str × Value)).length } := fun i v e => by
    obtain ⟨m1, m2⟩ := getL_mask e
    obtain ⟨y, v', c, val, ⟨e1, e2, e4, e5⟩, e6, r, e7, ⟨o, e8, e9⟩, e10, nl⟩ := hn2 i m1
    obtain ⟨y', val', n1, r', l⟩ := ko.loc.val i v m2
    rw [e1] at n1
    cases n1
    have cN : c ∉ wr ++ [Cc, D] := fun m => by rw [fr3 c m] at e8; cases e8
    rcases l with ⟨kd, _⟩ | ⟨c', kd, hc', ⟨o', e11, e12⟩, ho⟩
    · exact absurd kd nl
    · rw [e7] at hc'
      cases hc'
      refine ⟨y, c, val', e2, r'.kp (fun b o e _ => old b o e) (fun b z => ?_), ?_, by rw [cC]; exact hlk y c e4 e7, ⟨_, old _ _ e11, e12⟩, ho, cN⟩
      · rcases z with z | z
        · exact .inl (.inl z)
        · rcases Vo.plus_mem z with z | z
          · exact .inl (.inr (Vo.plus_sub b z))
          · rcases List.mem_append.mp z with z | z
            · exact .inl (.inr (Vo.plus_wr z))
            · exact .inr (frx b z).1
      · unfold Env.kindOf
        rw [cS]
        exact e5
  have loop : codeAny (model C.prog C.w) A (.compLoop (.ListComp elt [⟨target, iter, [cnd], 0⟩] scope pos) 0 (.ref I) (.ref D) cenv) (compPost (model C.prog C.w) A E use Q (.ref D) Cc) { s' with heap := h₁, toks := s'.toks + ([] : List (Str × Value)).length } := by
    refine compLoop_if (fun n s₁ => ∃ i acc vs σ₁ ow₁ m k, n = xs.length - i ∧ i ≤ xs.length ∧ inv (V.plus [Cc, D]) i σ₁ ow₁ s₁ ∧ Good C (V.plus (wr ++ [Cc, D])) σ₁ ow₁ s₁ ∧ s₁.heap.get? D = some (lstO vs k) ∧ vs.length ≤ i ∧ VRs C (Zs σ₁ ow₁ (zss (V.plus (wr ++ [Cc, D])))) s₁.heap acc vs ∧ s₁.heap.Ns Cc m ∧
      CapOk C cenv nms' (V.plus (wr ++ [Cc, D])) (wr ++ [Cc, D]) (maskL caps ρ) σ₁ ow₁ s₁ ∧ Stp (frs V) (Own σ ow) (Own σ₁ ow₁) s s₁ ∧ compLF G (bCmpF tb cw ew (maskL caps ρ)) (xs.drop i) acc σ₁ (kCmpE own Qa)) ?_ xs.length
      ⟨0, [], [], σ', ow', _, 0, rfl, Nat.zero_le _, hi1, g3, hacc, Nat.le_refl _, .nil, hns₁, cap0, st.trans (Stp.ext old _), z⟩
    rintro n s₁ ⟨i, acc, vs, σ₁, ow₁, m, kk, rfl, hle, hi, g, hDo, hvl, hr, hns, cap, st1, w⟩
    have e4 : Good C ((V.plus [Cc, D]).plus wr) σ₁ ow₁ s₁ := by rw [e3]; exact g
    by_cases hlt : i < xs.length
    · have hd : xs.drop i = xs[i] :: xs.drop (i + 1) := List.drop_eq_getElem_cons hlt
      rw [hd] at w
      obtain ⟨hG, ρ', htb, w⟩ := w
      refine wpAny_mono ((S.it (V.plus [Cc, D])).next i xs[i] σ₁ ow₁ s₁ _ _ (List.getElem?_eq_getElem hlt) hi e4 hG ?_) (fun r s₁ h₁ => by
        cases r with
        | none => exact False.elim h₁
        | some v => exact h₁) fun _ _ z => z
      intro v h' tk r hi' hk lv
      rw [e3] at r
      have hns' : h'.Ns Cc m := hns.at' fun o e => hk _ _ Cw e
      have hk3 : ∀ b o, b ∉ wr ++ [Cc, D] → s₁.heap.get? b = some o → h'.get? b = some o := fun b o nb e => hk b o (fun m => nb (List.mem_append_left _ m)) e
      have hDo' : h'.get? D = some (lstO vs kk) := hk _ _ Dw hDo
      have lv3 : ∀ b ∈ wr ++ [Cc, D], ∃ o, h'.get? b = some o := fun b hb => by
        rcases List.mem_append.mp hb with hb | hb
        · exact lv b hb
        · rcases List.mem_cons.mp hb with rfl | hb
          · obtain ⟨o, es, ep, e, _⟩ := hns'
            exact ⟨o, e⟩
          · rw [List.mem_singleton.mp hb]
            exact ⟨_, hDo'⟩
      have g' := g.its (t := tk) hk3 lv3
      refine hT A cenv (V.plus (wr ++ [Cc, D])) σ₁ ow₁ { s₁ with heap := h', toks := tk } xs[i] v m (maskL caps ρ) ρ' _ _ hh cS (by rw [cL]; exact hns') r htb fun h₂ tk₂ m₂ hk₂ hns₂ hρ => ?_
      rw [cL] at hk₂ hns₂
      have hk23 : ∀ b o, b ∉ wr ++ [Cc, D] → h'.get? b = some o → h₂.get? b = some o := fun b o nb e => hk₂ b o (fun q => nb (List.mem_append_right _ (by rw [q]; exact List.mem_cons_self))) e
      have hDo₂ : h₂.get? D = some (lstO vs kk) := hk₂ _ _ hDC hDo'
      have lv₂ : ∀ b ∈ wr ++ [Cc, D], ∃ o, h₂.get? b = some o := fun b hb => by
        by_cases q : b = Cc
        · subst q
          obtain ⟨o, es, ep, e, _⟩ := hns₂
          exact ⟨o, e⟩
        · obtain ⟨o, e⟩ := lv3 b hb
          exact ⟨o, hk₂ b o q e⟩
      have g₂ : Good C (V.plus (wr ++ [Cc, D])) σ₁ ow₁ { s₁ with heap := h₂, toks := tk₂ } := g'.its (t := tk₂) hk23 lv₂
      have cap₂ : CapOk C cenv nms' (V.plus (wr ++ [Cc, D])) (wr ++ [Cc, D]) (maskL caps ρ) σ₁ ow₁ { s₁ with heap := h₂, toks := tk₂ } := (cap.its (t := tk) hk3).its (t := tk₂) hk23
      have hK₂ : Kp (Zs σ₁ ow₁ (zss (V.plus (wr ++ [Cc, D])))) h' h₂ := fun b o e nb => hk23 b o (fun m => nb (.inr (Vo.plus_wr m))) e
      have hi₂ := (S.it (V.plus [Cc, D])).move (i + 1) σ₁ ow₁ _ h₂ tk₂ hi' (by rw [e3]; exact g') fun b o hb e => hk₂ b o (fun q => Cw (by rw [← q]; exact hb (by rw [q]; exact List.mem_append_left _ List.mem_cons_self))) e
      have st₂ : Stp (frs V) (Own σ ow) (Own σ₁ ow₁) s { s₁ with heap := h₂, toks := tk₂ } := (st1.its (t := tk) nfs hk3 fr3).its (t := tk₂) nfs hk23 fr3
      have ok₂ : Ok C A false cenv (V.plus (wr ++ [Cc, D])) nms' ρ' σ₁ ow₁ { s₁ with heap := h₂, toks := tk₂ } := by
        refine ⟨g₂, ⟨by rw [cS]; exact hkind, cG, cB, by rw [cL]; exact g₂.off Cc (Vo.plus_wr (List.mem_append_right _ List.mem_cons_self)), fun j x hj => ?_⟩, .inl hh, ?_⟩
        · rcases hρ j x hj with e | ⟨y, val, n1, rv, lo, mv⟩
          · obtain ⟨y, c, val, h1, h2, h3, h4, h5, h6, h7⟩ := cap₂ j x e
            exact ⟨y, val, h1, h2, .inr ⟨c, h3, h4, h5, h6⟩⟩
          · exact ⟨y, val, n1, rv.kp hK₂ (Zg.refl _ _), .inl ⟨by unfold Env.kindOf; rw [cS]; exact lo, m₂, by rw [cL]; exact hns₂, mv⟩⟩
        · rw [cL]
          obtain ⟨o, es, ep, e, _⟩ := hns₂
          exact ⟨o, e⟩
      refine hC.tr A cenv (V.plus (wr ++ [Cc, D])) ρ' cS ha.plus σ₁ ow₁ _ _ eNo _ _ w ok₂ (fun tv t σc owc sc' zc stc gc rc => ?_) (fun e c σ₃ ow₃ s₃ z₃ => False.elim z₃)
      have rc' : t = tv := rc
      subst rc'
      cases t with
      | false =>
        have zc' : compLF G (bCmpF tb cw ew (maskL caps ρ)) (xs.drop (i + 1)) acc σc (kCmpE own Qa) := zc
        rw [if_neg (by decide)]
        have DZ : D ∈ wr ++ [Cc, D] := List.mem_append_right _ (by simp)
        have CZ : Cc ∈ wr ++ [Cc, D] := List.mem_append_right _ (by simp)
        have kpz : ∀ b o, b ∈ wr ++ [Cc, D] → h₂.get? b = some o → sc'.heap.get? b = some o := fun b o hb e => stc.keep b o e (g₂.off b (Vo.plus_wr hb)) fun z => nfs b z hb
        have hDo₃ := kpz D _ DZ hDo₂
        have hi₃ := (S.it (V.plus [Cc, D])).step [] (i + 1) σ₁ ow₁ _ σc owc sc' hi₂ (by rw [e3]; exact g₂) stc.toS (by rw [e3]; exact gc) (compLF_G zc')
        have hr₃ : VRs C (Zs σc owc (zss (V.plus (wr ++ [Cc, D])))) sc'.heap acc vs := stc.vrs (((hr.kp (fun b o e nb => hk3 b o (fun m => nb (.inr (Vo.plus_wr m))) e) (Zg.refl _ _) : VRs C _ h' acc vs)).kp hK₂ (Zg.refl _ _))
        exact ⟨xs.length - (i + 1), by omega, i + 1, acc, vs, σc, owc, m₂, kk, rfl, hlt, hi₃, gc, hDo₃, by omega, hr₃, hns₂.at' fun o e => kpz Cc o CZ e, cap₂.stp stc, st₂.trans stc, zc'⟩
      | true =>
      rw [if_pos rfl]
      refine hE.ev A cenv (V.plus (wr ++ [Cc, D])) ρ' cS ha.plus σc owc sc' _ eNo _ _ zc (ok₂.stp stc gc) (fun y av σ₃ ow₃ s₃ z₃ st₃0 g₃ r₃ => ?_) (fun e c σ₃ ow₃ s₃ z₃ => False.elim z₃)
      have st₃ := stc.trans st₃0
      have DZ : D ∈ wr ++ [Cc, D] := List.mem_append_right _ (by simp)
      have CZ : Cc ∈ wr ++ [Cc, D] := List.mem_append_right _ (by simp)
      have kpz : ∀ b o, b ∈ wr ++ [Cc, D] → h₂.get? b = some o → s₃.heap.get? b = some o := fun b o hb e => st₃.keep b o e (g₂.off b (Vo.plus_wr hb)) fun z => nfs b z hb
      have hDo₃ := kpz D _ DZ hDo₂
      have z₃' : compLF G (bCmpF tb cw ew (maskL caps ρ)) (xs.drop (i + 1)) (acc ++ [av]) σ₃ (kCmpE own Qa) := z₃
      refine append_at (hsz := by rw [List.size_toArray]; unfold sizeLine; omega) hDo₃ fun h₄ hsb hDo₄ => ?_
      have hk₄ : ∀ b o, b ≠ D → s₃.heap.get? b = some o → h₄.get? b = some o := fun b o nb e => (hsb.2 b nb).trans e
      have hk43 : ∀ b o, b ∉ wr ++ [Cc, D] → s₃.heap.get? b = some o → h₄.get? b = some o := fun b o nb e => hk₄ b o (fun q => nb (q ▸ DZ)) e
      have hK₄ : Kp (Zs σ₃ ow₃ (zss (V.plus (wr ++ [Cc, D])))) s₃.heap h₄ := fun b o e nb => hk43 b o (fun m => nb (.inr (Vo.plus_wr m))) e
      have lv₄ : ∀ b ∈ wr ++ [Cc, D], ∃ o, h₄.get? b = some o := fun b hb => by
        by_cases q : b = D
        · subst q; exact ⟨_, hDo₄⟩
        · obtain ⟨o, e⟩ := lv₂ b hb
          exact ⟨o, hk₄ b o q (kpz b o hb e)⟩
      have hi₃ := (S.it (V.plus [Cc, D])).step [] (i + 1) σ₁ ow₁ _ σ₃ ow₃ s₃ hi₂ (by rw [e3]; exact g₂) st₃.toS (by rw [e3]; exact g₃) (compLF_G z₃')
      have hi₄ := (S.it (V.plus [Cc, D])).move (i + 1) σ₃ ow₃ s₃ h₄ s₃.toks hi₃ (by rw [e3]; exact g₃) fun b o hb e => hk₄ b o (fun q => Dw (by rw [← q]; exact hb (by rw [q]; exact List.mem_append_left _ (by simp)))) e
      have hr₃ : VRs C (Zs σ₃ ow₃ (zss (V.plus (wr ++ [Cc, D])))) s₃.heap acc vs := st₃.vrs (((hr.kp (fun b o e nb => hk3 b o (fun m => nb (.inr (Vo.plus_wr m))) e) (Zg.refl _ _) : VRs C _ h' acc vs)).kp hK₂ (Zg.refl _ _))
      refine ⟨xs.length - (i + 1), by omega, i + 1, acc ++ [av], vs ++ [y], σ₃, ow₃, m₂, kk + 1, rfl, hlt, hi₄, g₃.its hk43 lv₄, by rw [hDo₄]; simp, by rw [List.length_append]; show vs.length + 1 ≤ i + 1; omega, VRs.append (.cons (r₃.kp hK₄ (Zg.refl _ _)) .nil) (hr₃.kp hK₄ (Zg.refl _ _)), ?_, (cap₂.stp st₃).its hk43, (st₂.trans st₃).its nfs hk43 fr3, z₃'⟩
      exact (hns₂.at' fun o e => kpz Cc o CZ e : s₃.heap.Ns Cc m₂).at' fun o e => hk₄ _ _ (Ne.symm hDC) e
    · have he : i = xs.length := by omega
      subst he
      rw [List.drop_length] at w
      obtain ⟨hG, w⟩ := w
      refine (S.it (V.plus [Cc, D])).done σ₁ ow₁ s₁ _ _ hi e4 (.inl hh) hG fun h' tk hk => ?_
      have g2 : Good C (V.plus [Cc, D]) σ₁ ow₁ { s₁ with heap := h', toks := tk } := e4.drop (fun b hb n => by
        rcases List.mem_append.mp n with n | n
        · rcases List.mem_cons.mp n with n | n
          · exact Cw (n ▸ hb)
          · exact Dw (List.mem_singleton.mp n ▸ hb)
        · exact nits b (List.mem_append_left _ hb) (List.mem_append_right _ n)) hk
      have zg : Zg (Zs σ₁ ow₁ (zss (V.plus (wr ++ [Cc, D])))) (Zs σ₁ ow₁ (zss (V.plus [Cc, D]))) s₁.heap := fun b z => .inl (z.imp id fun z => by
        rcases Vo.plus_mem z with z | z
        · exact Vo.plus_sub b z
        · exact Vo.plus_wr (List.mem_append_right _ z))
      exact fin D Cc σ₁ ow₁ _ ⟨⟨vs, kk, acc, m, w, hk _ _ Dw hDo, hr.kp (fun b o e nb => hk b o (fun m => nb (.inr (Vo.plus_wr (List.mem_append_left _ m)))) e) zg, hns.at' fun o e => hk _ _ Cw e, by omega⟩, g2, st1.its (fun b hb m => nfs b hb (List.mem_append_left _ m)) hk fun b hb => fr3 b (List.mem_append_left _ hb), hDC, fun b hb => fr3 b (List.mem_append_right _ hb)⟩
  rw [← hce] at loop
  exact codeAny_compStart_list loop ((S.it (V.plus [Cc, D])).self 0 σ' ow' _ _ _ hi1 (by rw [e3]; exact g3) loop)
theorem Both.compF {own : Bool} {cw : WE} {cnd : Expr} {src : WX} {tb : TB} {caps : List Nat} {ew : WE} {elt iter target : Expr} {scope : Scope} {pos : Pos} (hS : SrcE C d sc nms false target iter src) (hC : Both C d (relS scope sc) nms' false cw cnd) (hE : Both C d (relS scope sc) nms' false ew elt) (hT : TgtOk C (relS scope sc) nms' target tb)
    (hk : okComp scope sc nms nms' caps = true) (hset : notSet iter = true) : Both C d sc nms false (vCompF own src tb caps cw ew) (.ListComp elt [⟨target, iter, [cnd], 0⟩] scope pos) :=
  .of rfl fun A env V ρ hs ha σ ow s Qa Ea Q E w ok kv kx => by
    rw [eval_ListComp]
    refine comp_coreF (use := Option.none) hS hC hE hT hk hset hs ha w ok kx fun D Cc σ₁ ow₁ s₁ x => ?_
    obtain ⟨av, σ₂, w', st, g, r⟩ := x.val ok.good
    obtain ⟨_, _, _, m, _, _, _, hns, _⟩ := x.ex
    have frC : s.heap.get? Cc = Option.none := x.fr Cc (by simp)
    have nf : ∀ b ∈ V.fs, b ∉ [Cc] := fun b m n => by
      obtain ⟨_, o, y⟩ := ok.good.mem b (V.sub b m)
      rw [List.mem_singleton.mp n, frC] at y; cases y
    have nz : ∀ b ∈ [Cc], b ∉ V.its := fun b m n => by
      obtain ⟨_, o, y⟩ := ok.good.mem b (List.mem_append_right _ n)
      rw [List.mem_singleton.mp m, frC] at y; cases y
    refine ⟨m, hns, fun h' hsb => ?_⟩
    have hk' : ∀ b o, b ∉ [Cc] → s₁.heap.get? b = some o → h'.get? b = some o := fun b o nb e => hsb.extBut b o (fun q => nb (by rw [q]; simp)) e
    exact kv _ _ σ₂ ow₁ _ w' (st.its (t := s₁.toks) nf hk' fun b m => by rw [List.mem_singleton.mp m]; exact frC) (g.drop nz hk') (r.kp (fun b o e nb => hk' b o (fun m => nb (.inr (Vo.plus_wr m))) e) fun b z => .inl (zs_plus z))
theorem bi_lenO : BiSnd C true (.builtin "len") oLenO := by
  intro A envs σ ow s Qa Q E vs vals hq g k r w
  obtain ⟨l, xs, rfl, hs, w⟩ := w
  cases r with | cons r1 r2 =>
  cases r2
  cases r1
  obtain ⟨vs, li, rr⟩ := g.store l _ hs
  refine len_list li.isList (by have := li.1; rw [List.size_toArray]; omega) ?_
  rw [List.size_toArray, ← rr.length]
  exact k.val g _ w (.int _ _)
theorem bok_LenO : BiOk C true (Str.ofString "len") oLenO := ⟨⟨_, by decide +kernel, .inl ⟨_, rfl⟩, bi_lenO⟩⟩
theorem cmp_inL : CmpSnd C .In cInL := by
  intro A envs σ ow s K Q E va vb a b hu g ra rb w k
  obtain ⟨x, ys, ns, rfl, rfl, e, w⟩ := w
  cases ra
  cases rb with | ilist li off r =>
  exact in_list_ints li.isList (intsOf_vrs r e) (k _ s.toks w)
theorem rangeL_vrs {Z : Nat → Prop} {h : Heap} {a b : Int} {acc : Array Value} (hi : ItemsOf (fun i v => ∃ t, v = .int (a + i * 1) t) acc (b - a).toNat) : VRs C Z h (rangeL a b) acc.toList := by
  have key : ∀ (xs : List AV) (vs : List Value), xs.length = vs.length → (∀ (j : Nat) x v, xs[j]? = some x → vs[j]? = some v → VR C Z h x v) → VRs C Z h xs vs := by
    intro xs
    induction xs with
    | nil => intro vs hl _; cases vs with | nil => exact .nil | cons => cases hl
    | cons x xs ih =>
      intro vs hl hh
      cases vs with
      | nil => cases hl
      | cons v vs => exact .cons (hh 0 x v rfl rfl) (ih vs (Nat.succ.inj hl) fun j x v h1 h2 => hh (j + 1) x v h1 h2)
  obtain ⟨h1, h2⟩ := hi
  refine key _ _ (by unfold rangeL; rw [List.length_map, List.length_range, Array.length_toList, h1]) fun j x v hx hv => ?_
  unfold rangeL at hx
  rw [List.getElem?_map, Option.map_eq_some_iff] at hx
  obtain ⟨k, hk, rfl⟩ := hx
  have hkj : k = j := by
    obtain ⟨hlt, e⟩ := List.getElem?_eq_some_iff.mp hk
    rw [List.getElem_range] at e
    exact e.symm
  subst hkj
  rw [Array.getElem?_toList] at hv
  obtain ⟨t, rfl⟩ := h2 _ _ hv
  rw [Int.mul_one]
  exact .int _ _
theorem Both.listR (X : CxOk C T P) {own : Bool} {n m : Str} {np mp rp pos : Pos} {es : WL} {xs : List Expr} (h : BothL C d sc nms false es xs) (hl : n = (Str.ofString "list")) (hr : m = (Str.ofString "range")) (hn : n ∈ T.bltN) (hm : m ∈ T.bltN) (h3 : gl sc n = true) (h4 : gl sc m = true) :
    Both C d sc nms false (vListR own es) (.Call (.Name n np) [.Call (.Name m mp) xs [] rp] [] pos) :=
  .of rfl fun A env V ρ hs ha σ ow s Qa Ea Q E w ok kv kx => by
    obtain ⟨g1, g2, g3⟩ := gl_of h3
    obtain ⟨g4, g5, g6⟩ := gl_of h4
    have hb1 : bootBuiltins n = some (.type "list") := by rw [hl]; decide +kernel
    have hb2 : bootBuiltins m = some (.type "range") := by rw [hr]; decide +kernel
    refine wpAny_Call_ofName (bname X (by unfold Env.kindOf; rw [hs]; exact g1) g2 ok hn g3 hb1 ?_)
    refine PyProof.Rows.callWith_type (starEach_any (by rfl)) (evalArgs_any (by rfl) ?_)
    rw [starEach_cons (by rfl)]
    refine spliced_cons (wpAny_Call_ofName (bname X (by unfold Env.kindOf; rw [hs]; exact g4) g5 ok hm g6 hb2 ?_))
    refine PyProof.Rows.callWith_type (starEach_any h.stars) (evalArgs_any h.stars (h.snd hs ha σ ow s _ Ea _ E w ok (fun vs avs σ' ow' s' z st g r => ?_) kx))
    obtain ⟨a, b, hab, ⟨ha1, hb1, hlen⟩, z⟩ := z
    obtain ⟨hsm, hsz⟩ := small_of ha1 hb1
    have hh := ok.hnd.none
    have fin : ∀ (h₁ : Heap) (tk : Nat) (R : Addr) (t u v : Tok), (∀ b o, s'.heap.get? b = some o → h₁.get? b = some o) → IsRange h₁ R a b 1 t u v → wpAny (model C.prog C.w) A (PySem.call (.type "list") [.ref R]) Q E { s' with heap := h₁, toks := tk } := fun h₁ tk R t u v gr1 hR => by
      refine call_list_range hh hR hsm hsz (by have : (2 : Nat) ^ 24 = 16777216 := rfl; omega) fun h' tk' acc' c' hk hS' hacc => ?_
      have gr : ∀ b o, s'.heap.get? b = some o → h'.get? b = some o := fun b o e => hk b o (gr1 b o e)
      have nI : s'.heap.get? h₁.objs.size = Option.none := by
        cases e : s'.heap.get? h₁.objs.size with
        | none => rfl
        | some o => exact absurd (Heap.lt_size (gr1 _ _ e)) (Nat.lt_irrefl _)
      have e1 : acc'.toList.toArray = acc' := by simp
      refine mkL_grown (n := c') (vs := acc'.toList) g (kv.stp st) gr nI (by rw [lstO, e1]; exact hS') ?_ z (rangeL_vrs hacc)
      rw [Array.length_toList, hacc.1]; omega
    obtain ⟨r, _⟩ := r
    cases r with
    | nil => cases hab
    | cons r1 r2 =>
      cases r2 with
      | nil =>
        cases r1 <;> cases hab
        exact call_range_1 (spliced_nil (fin _ _ _ _ _ _ (fun _ _ e => Heap.get?_push_of_some _ e) (Heap.get?_push_size _ rfl)))
      | cons r2 r3 =>
        cases r3 with
        | nil =>
          cases r1 <;> first | cases hab | skip
          cases r2 <;> cases hab
          exact call_range_2 (spliced_nil (fin _ _ _ _ _ _ (fun _ _ e => Heap.get?_push_of_some _ e) (Heap.get?_push_size _ rfl)))
        | cons r3 r4 => cases r1 <;> first | cases hab | (cases r2 <;> cases hab)
end
end Ap
end
section
set_option Elab.async false
set_option linter.unusedVariables false
set_option linter.unusedSimpArgs false
namespace Ap
open PySem
section
variable {F : Calls} {ρ : Loc} {σ : St} {Q : PQ} {E : PE} {QQ : QS} {EE : ES} {K : Bool → Prop} {a b c e : WE} {l n m i j : Nat} {x y : Int} {u v : AV} {vs xs ys : List AV} {t : Ty}
theorem x_idxO (h : σ l = some (.list xs)) : oIdxO (.obj l) (.int x) σ Q = (0 ≤ x ∧ lookV Q σ xs[x.toNat]?) := propext ⟨fun ⟨_, _, _, e1, e2, e3, q⟩ => by cases e1; cases e2; rw [h] at e3; cases e3; exact q, fun q => ⟨_, _, _, rfl, rfl, h, q⟩⟩
end
end Ap
end
section
set_option Elab.async false
set_option maxRecDepth 100000
set_option maxHeartbeats 4000000
set_option linter.unusedVariables false
namespace Ap.L04
open PySem PySem.W PySem.Calls PyProof.Rows
noncomputable abbrev pw : Program := PySem.Challenge.pw_uf020020_04
noncomputable abbrev sS (x : String) : Str := Str.ofString x
noncomputable def en (P : Params) (x : String) (t : Tok) (v : Value) : DictEntry := ⟨PyData.keyHash P (Str.ofString x), .str (Str.ofString x) t, v⟩
noncomputable def prAt (l : List Stmt) (i : Nat) : Arguments := match l[i]? with | some (.FunctionDef _ a _ _ _ _ _ _ _ _) => a | _ => default
noncomputable def m0 : Nat := 11
noncomputable def ann : Option Value := (some (.ref 6))
noncomputable def env : Env := { scope := pw.main.scope, locals := mainNs, globals := mainNs, cells := [], code := (.ref 13), frame := some 14 }
noncomputable def B : List Frame := [topFrame ⟨0, 0, 0, 0⟩]
noncomputable def cE : Code := .body (behindTheImports pw) env
noncomputable def S0 (w : World) (os : OsState) : Shared := ⟨boot_heap w.params, ⟨[]⟩, boot_drawn, boot_toks, os⟩
noncomputable def o11x0 (P : Params) : Obj := ⟨(.type "tuple"), none, (.seq ⟨[]⟩ 0), ⟨[]⟩⟩
noncomputable def o12x0 (P : Params) : Obj := ⟨.none, none, (.fields ⟨[]⟩), ⟨[]⟩⟩
noncomputable def o13x0 (P : Params) : Obj := ⟨(.type "code"), none, (.fields ⟨[(.str (sS "<module>") 182), (.str (sS "<module>") 183), (.str (sS "/claim/cut.py") 184), (.int (1) 0), (.int (0) 0), (.int (0) 0), (.int (0) 0), (.int (0) 0), (.ref 11), (.bool false), (.int (181) 0), (.ref 12), .none, .none, .none, .none, (.int (185) 0), (.int (1) 0), (.str (sS "/claim/cut.py") 186)]⟩), ⟨[]⟩⟩
noncomputable def o14x0 (P : Params) : Obj := ⟨(.type "frame"), none, .plain, ⟨[(some (.ref 13)), (some (.ref 3)), (some (.ref 3)), none, (some (.str (sS "__main__") 164)), none, (some (.ref 0))]⟩⟩
noncomputable def lf0 : Life := ⟨[], [], [], 0, [], [], false, ⟨[]⟩, [], 0, false, false, false, 0, [2000, 10, 10], false, 0, true, [], [], 0, false⟩
noncomputable def Sah (P : Params) : Heap := ⟨⟨[boot_o_0 P, boot_o_1 P, boot_o_2 P, boot_o_3 P, boot_o_4 P, boot_o_5 P, boot_o_6 P, boot_o_7 P, boot_o_8 P, boot_o_9 P, boot_o_10 P, o11x0 P, o12x0 P, o13x0 P, o14x0 P]⟩, lf0⟩
noncomputable def Sa (w : World) (os : OsState) : Shared := ⟨Sah w.params, ⟨[]⟩, ⟨0, 0, 0, 0⟩, 187, os⟩
noncomputable def t1 (P : Params) : BT := (.node (boot_o_1 P) (.node (boot_o_3 P) (.node (boot_o_7 P) .nil .nil) (.node (o11x0 P) .nil .nil)) (.node (boot_o_5 P) (.node (boot_o_9 P) .nil .nil) (.node (o13x0 P) .nil .nil)))
noncomputable def t2 (P : Params) : BT := (.node (boot_o_2 P) (.node (boot_o_4 P) (.node (boot_o_8 P) .nil .nil) (.node (o12x0 P) .nil .nil)) (.node (boot_o_6 P) (.node (boot_o_10 P) .nil .nil) (.node (o14x0 P) .nil .nil)))
noncomputable def Sb (w : World) (os : OsState) : SharedT := (fun P => ⟨(.node (boot_o_0 P) (t1 P) (t2 P)), 15, lf0, ⟨[]⟩, ⟨0, 0, 0, 0⟩, 187, os⟩ : Params → SharedT) w.params
noncomputable def preP (w : World) : Prop := (fun os => topGo treeTable pw w m0 ann 12 (S0 w os) (topStub pw)) = fun os => some (Sa w os, ⟨denote treeTable cE, cE, ⟨0, 0, 0, 0⟩, B⟩)
theorem pre (w : World) : preP w := by
  unfold preP
  rw [PySem.W.Fast.te15667345088766844465, PySem.W.Fast.te14364793385576792824, PySem.W.Fast.te11892475500146522536]
  kernel_rfl
noncomputable def blkP (w : World) : Prop := (fun os => segRun treeTable pw w m0 ann 1 1 (Sa w os) (blockOf (behindTheImports pw) env cE ⟨0, 0, 0, 0⟩ B)) = fun os => some (Flow.next, (Sb w os).abs, cE, ⟨0, 0, 0, 0⟩)
theorem blk (w : World) : blkP w := by
  unfold blkP
  rw [PySem.W.Fast.te14374325043358763698, PySem.W.Fast.te14364793385576792824]
  kernel_rfl
noncomputable def o3x0 (P : Params) : Obj := ⟨(.type "dict"), none, (.dict ⟨[en P "__name__" 165 (.str (sS "ringpost.errors") 187), en P "__doc__" 166 .none, en P "__package__" 167 .none, en P "__loader__" 168 (.builtin "__main__.__loader__#opaque"), en P "__spec__" 169 .none, en P "__annotations__" 170 (.ref 6), en P "__builtins__" 171 (.ref 4), en P "__file__" 173 (.str (sS "/claim/cut.py") 172), en P "__cached__" 174 .none, en P "PostError" 206 (.ref 24)]⟩ 10), ⟨[]⟩⟩
noncomputable def o12x1 (P : Params) : Obj := ⟨.none, none, (.fields ⟨[(.int (2) 0), (.int (0) 0), (.ref 20)]⟩), ⟨[]⟩⟩
noncomputable def o15x0 (P : Params) : Obj := ⟨(.type "tuple"), none, (.seq ⟨[(.type "ValueError")]⟩ 0), ⟨[]⟩⟩
noncomputable def o16x0 (P : Params) : Obj := ⟨(.type "builtin_function_or_method"), none, (.fields ⟨[(.builtin "type.__prepare__"), (.type "type")]⟩), ⟨[]⟩⟩
noncomputable def o17x0 (P : Params) : Obj := ⟨(.type "dict"), none, (.dict ⟨[en P "__module__" 196 (.str (sS "ringpost.errors") 187), en P "__qualname__" 198 (.str (sS "PostError") 197), en P "__firstlineno__" 200 (.int (2) 199), en P "__static_attributes__" 201 (.ref 22)]⟩ 4), ⟨[]⟩⟩
noncomputable def o18x0 (P : Params) : Obj := ⟨(.type "tuple"), none, (.seq ⟨[]⟩ 0), ⟨[]⟩⟩
noncomputable def o19x0 (P : Params) : Obj := ⟨.none, none, (.fields ⟨[]⟩), ⟨[]⟩⟩
noncomputable def o20x0 (P : Params) : Obj := ⟨(.type "code"), none, (.fields ⟨[(.str (sS "PostError") 191), (.str (sS "PostError") 192), (.str (sS "/claim/cut.py") 193), (.int (2) 0), (.int (0) 0), (.int (0) 0), (.int (0) 0), (.int (0) 0), (.ref 18), (.bool false), (.int (181) 0), (.ref 19), .none, .none, .none, .none, (.int (194) 0), (.int (2) 0), (.str (sS "/claim/cut.py") 195)]⟩), ⟨[]⟩⟩
noncomputable def o21x0 (P : Params) : Obj := ⟨(.type "frame"), none, .plain, ⟨[(some (.ref 20)), (some (.ref 3)), (some (.ref 17)), none, (some (.str (sS "ringpost.errors") 187)), none, (some (.ref 0))]⟩⟩
noncomputable def o22x0 (P : Params) : Obj := ⟨(.type "tuple"), none, (.seq ⟨[]⟩ 0), ⟨[]⟩⟩
noncomputable def o23x0 (P : Params) : Obj := ⟨(.type "dict"), none, (.dict ⟨[en P "__module__" 196 (.str (sS "ringpost.errors") 187), en P "__firstlineno__" 200 (.int (2) 199), en P "__static_attributes__" 201 (.ref 22), en P "__weakref__" 203 (.ref 25), en P "__doc__" 204 .none]⟩ 3), ⟨[]⟩⟩
noncomputable def o24x0 (P : Params) : Obj := ⟨(.type "type"), none, (.cls { name := (sS "PostError"), bases := [(.type "ValueError")], mro := [(.ref 24), (.type "ValueError"), (.type "Exception"), (.type "BaseException"), (.type "object")], ns := 23, qualname := (sS "PostError"), hasDict := true, slotNames := [], subclasses := [], abstract := false, collection := none, hasDel := false }), ⟨[(some (.ref 15)), none, (some (.str (sS "PostError") 189)), (some (.str (sS "PostError") 197)), (some (.builtin "ValueError.__new__")), (some (.bool true))]⟩⟩
noncomputable def o25x0 (P : Params) : Obj := ⟨(.type "getset_descriptor"), none, (.fields ⟨[(.str (sS "__weakref__") 202), (.ref 24), (.builtin "ExceptionGroup.__weakref__"), .none]⟩), ⟨[]⟩⟩
noncomputable def o26x0 (P : Params) : Obj := ⟨(.type "super"), none, (.fields ⟨[(.ref 24), (.ref 24), (.ref 24)]⟩), ⟨[]⟩⟩
noncomputable def o27x0 (P : Params) : Obj := ⟨(.type "builtin_function_or_method"), none, (.fields ⟨[(.builtin "object.__init_subclass__"), (.ref 24)]⟩), ⟨[]⟩⟩
noncomputable def t3 (P : Params) : BT := (.node (o3x0 P) (.node (boot_o_7 P) (.node (o15x0 P) .nil .nil) (.node (o23x0 P) .nil .nil)) (.node (o11x0 P) (.node (o19x0 P) .nil .nil) (.node (o27x0 P) .nil .nil)))
noncomputable def t4 (P : Params) : BT := (.node (boot_o_5 P) (.node (boot_o_9 P) (.node (o17x0 P) .nil .nil) (.node (o25x0 P) .nil .nil)) (.node (o13x0 P) (.node (o21x0 P) .nil .nil) .nil))
noncomputable def t5 (P : Params) : BT := (.node (boot_o_4 P) (.node (boot_o_8 P) (.node (o16x0 P) .nil .nil) (.node (o24x0 P) .nil .nil)) (.node (o12x1 P) (.node (o20x0 P) .nil .nil) .nil))
noncomputable def t6 (P : Params) : BT := (.node (boot_o_6 P) (.node (boot_o_10 P) (.node (o18x0 P) .nil .nil) (.node (o26x0 P) .nil .nil)) (.node (o14x0 P) (.node (o22x0 P) .nil .nil) .nil))
noncomputable def t7 (P : Params) : BT := (.node (boot_o_0 P) (.node (boot_o_1 P) (t3 P) (t4 P)) (.node (boot_o_2 P) (t5 P) (t6 P)))
noncomputable def S1 (w : World) (os : OsState) : SharedT := (fun P => ⟨(t7 P), 28, lf0, ⟨[]⟩, ⟨0, 0, 0, 0⟩, 207, os⟩ : Params → SharedT) w.params
noncomputable def sts0 : List Stmt := ((behindTheImports pw).drop 0).take 2
noncomputable def pc0P (w : World) : Prop := (fun os => segRunT treeTable pw w m0 ann 1 196 (Sb w os) (piecesOf sts0 env cE ⟨0, 0, 0, 0⟩ B)) = fun os => some (Flow.next, S1 w os, cE, ⟨2, 0, 3, 8⟩)
theorem pc0 (w : World) : pc0P w := by
  unfold pc0P
  rw [PySem.W.Fast.te10110043849684766642, PySem.W.Fast.te14364793385576792824]
  kernel_rfl
noncomputable def o3x1 (P : Params) : Obj := ⟨(.type "dict"), none, (.dict ⟨[en P "__name__" 165 (.str (sS "ringpost.errors") 187), en P "__doc__" 166 .none, en P "__package__" 167 .none, en P "__loader__" 168 (.builtin "__main__.__loader__#opaque"), en P "__spec__" 169 .none, en P "__annotations__" 170 (.ref 6), en P "__builtins__" 171 (.ref 4), en P "__file__" 173 (.str (sS "/claim/cut.py") 172), en P "__cached__" 174 .none, en P "PostError" 206 (.ref 24), en P "BadBounds" 222 (.ref 37)]⟩ 11), ⟨[]⟩⟩
noncomputable def o12x2 (P : Params) : Obj := ⟨.none, none, (.fields ⟨[(.int (2) 0), (.int (0) 0), (.ref 20), (.int (4) 0), (.int (0) 0), (.ref 33)]⟩), ⟨[]⟩⟩
noncomputable def o24x1 (P : Params) : Obj := ⟨(.type "type"), none, (.cls { name := (sS "PostError"), bases := [(.type "ValueError")], mro := [(.ref 24), (.type "ValueError"), (.type "Exception"), (.type "BaseException"), (.type "object")], ns := 23, qualname := (sS "PostError"), hasDict := true, slotNames := [], subclasses := [(.ref 37)], abstract := false, collection := none, hasDel := false }), ⟨[(some (.ref 15)), none, (some (.str (sS "PostError") 189)), (some (.str (sS "PostError") 197)), (some (.builtin "ValueError.__new__")), (some (.bool true))]⟩⟩
noncomputable def o28x0 (P : Params) : Obj := ⟨(.type "tuple"), none, (.seq ⟨[(.ref 24)]⟩ 0), ⟨[]⟩⟩
noncomputable def o29x0 (P : Params) : Obj := ⟨(.type "builtin_function_or_method"), none, (.fields ⟨[(.builtin "type.__prepare__"), (.type "type")]⟩), ⟨[]⟩⟩
noncomputable def o30x0 (P : Params) : Obj := ⟨(.type "dict"), none, (.dict ⟨[en P "__module__" 214 (.str (sS "ringpost.errors") 187), en P "__qualname__" 216 (.str (sS "BadBounds") 215), en P "__firstlineno__" 218 (.int (4) 217), en P "__static_attributes__" 219 (.ref 35)]⟩ 4), ⟨[]⟩⟩
noncomputable def o31x0 (P : Params) : Obj := ⟨(.type "tuple"), none, (.seq ⟨[]⟩ 0), ⟨[]⟩⟩
noncomputable def o32x0 (P : Params) : Obj := ⟨.none, none, (.fields ⟨[]⟩), ⟨[]⟩⟩
noncomputable def o33x0 (P : Params) : Obj := ⟨(.type "code"), none, (.fields ⟨[(.str (sS "BadBounds") 209), (.str (sS "BadBounds") 210), (.str (sS "/claim/cut.py") 211), (.int (4) 0), (.int (0) 0), (.int (0) 0), (.int (0) 0), (.int (0) 0), (.ref 31), (.bool false), (.int (181) 0), (.ref 32), .none, .none, .none, .none, (.int (212) 0), (.int (4) 0), (.str (sS "/claim/cut.py") 213)]⟩), ⟨[]⟩⟩
noncomputable def o34x0 (P : Params) : Obj := ⟨(.type "frame"), none, .plain, ⟨[(some (.ref 33)), (some (.ref 3)), (some (.ref 30)), none, (some (.str (sS "ringpost.errors") 187)), none, (some (.ref 0))]⟩⟩
noncomputable def o35x0 (P : Params) : Obj := ⟨(.type "tuple"), none, (.seq ⟨[]⟩ 0), ⟨[]⟩⟩
noncomputable def o36x0 (P : Params) : Obj := ⟨(.type "dict"), none, (.dict ⟨[en P "__module__" 214 (.str (sS "ringpost.errors") 187), en P "__firstlineno__" 218 (.int (4) 217), en P "__static_attributes__" 219 (.ref 35), en P "__doc__" 220 .none]⟩ 2), ⟨[]⟩⟩
noncomputable def o37x0 (P : Params) : Obj := ⟨(.type "type"), none, (.cls { name := (sS "BadBounds"), bases := [(.ref 24)], mro := [(.ref 37), (.ref 24), (.type "ValueError"), (.type "Exception"), (.type "BaseException"), (.type "object")], ns := 36, qualname := (sS "BadBounds"), hasDict := true, slotNames := [], subclasses := [], abstract := false, collection := none, hasDel := false }), ⟨[(some (.ref 28)), none, (some (.str (sS "BadBounds") 207)), (some (.str (sS "BadBounds") 215)), (some (.builtin "ValueError.__new__")), (some (.bool true))]⟩⟩
noncomputable def o38x0 (P : Params) : Obj := ⟨(.type "super"), none, (.fields ⟨[(.ref 37), (.ref 37), (.ref 37)]⟩), ⟨[]⟩⟩
noncomputable def o39x0 (P : Params) : Obj := ⟨(.type "builtin_function_or_method"), none, (.fields ⟨[(.builtin "object.__init_subclass__"), (.ref 37)]⟩), ⟨[]⟩⟩
noncomputable def t8 (P : Params) : BT := (.node (o3x1 P) (.node (boot_o_7 P) (.node (o15x0 P) (.node (o31x0 P) .nil .nil) .nil) (.node (o23x0 P) (.node (o39x0 P) .nil .nil) .nil)) (.node (o11x0 P) (.node (o19x0 P) (.node (o35x0 P) .nil .nil) .nil) (.node (o27x0 P) .nil .nil)))
noncomputable def t9 (P : Params) : BT := (.node (boot_o_5 P) (.node (boot_o_9 P) (.node (o17x0 P) (.node (o33x0 P) .nil .nil) .nil) (.node (o25x0 P) .nil .nil)) (.node (o13x0 P) (.node (o21x0 P) (.node (o37x0 P) .nil .nil) .nil) (.node (o29x0 P) .nil .nil)))
noncomputable def t10 (P : Params) : BT := (.node (boot_o_4 P) (.node (boot_o_8 P) (.node (o16x0 P) (.node (o32x0 P) .nil .nil) .nil) (.node (o24x1 P) .nil .nil)) (.node (o12x2 P) (.node (o20x0 P) (.node (o36x0 P) .nil .nil) .nil) (.node (o28x0 P) .nil .nil)))
noncomputable def t11 (P : Params) : BT := (.node (boot_o_6 P) (.node (boot_o_10 P) (.node (o18x0 P) (.node (o34x0 P) .nil .nil) .nil) (.node (o26x0 P) .nil .nil)) (.node (o14x0 P) (.node (o22x0 P) (.node (o38x0 P) .nil .nil) .nil) (.node (o30x0 P) .nil .nil)))
noncomputable def t12 (P : Params) : BT := (.node (boot_o_0 P) (.node (boot_o_1 P) (t8 P) (t9 P)) (.node (boot_o_2 P) (t10 P) (t11 P)))
noncomputable def S2 (w : World) (os : OsState) : SharedT := (fun P => ⟨(t12 P), 40, lf0, ⟨[]⟩, ⟨0, 0, 0, 0⟩, 223, os⟩ : Params → SharedT) w.params
noncomputable def sts1 : List Stmt := ((behindTheImports pw).drop 2).take 1
noncomputable def pc1P (w : World) : Prop := (fun os => segRunT treeTable pw w m0 ann 1 214 (S1 w os) (piecesOf sts1 env cE ⟨2, 0, 3, 8⟩ B)) = fun os => some (Flow.next, S2 w os, cE, ⟨4, 0, 5, 8⟩)
theorem pc1 (w : World) : pc1P w := by
  unfold pc1P
  rw [PySem.W.Fast.te10110043849684766642, PySem.W.Fast.te14364793385576792824]
  kernel_rfl
noncomputable def o3x2 (P : Params) : Obj := ⟨(.type "dict"), none, (.dict ⟨[en P "__name__" 165 (.str (sS "ringpost.errors") 187), en P "__doc__" 166 .none, en P "__package__" 167 .none, en P "__loader__" 168 (.builtin "__main__.__loader__#opaque"), en P "__spec__" 169 .none, en P "__annotations__" 170 (.ref 6), en P "__builtins__" 171 (.ref 4), en P "__file__" 173 (.str (sS "/claim/cut.py") 172), en P "__cached__" 174 .none, en P "PostError" 206 (.ref 24), en P "BadBounds" 222 (.ref 37), en P "BadRing" 238 (.ref 49)]⟩ 12), ⟨[]⟩⟩
noncomputable def o12x3 (P : Params) : Obj := ⟨.none, none, (.fields ⟨[(.int (2) 0), (.int (0) 0), (.ref 20), (.int (4) 0), (.int (0) 0), (.ref 33), (.int (6) 0), (.int (0) 0), (.ref 45)]⟩), ⟨[]⟩⟩
noncomputable def o24x2 (P : Params) : Obj := ⟨(.type "type"), none, (.cls { name := (sS "PostError"), bases := [(.type "ValueError")], mro := [(.ref 24), (.type "ValueError"), (.type "Exception"), (.type "BaseException"), (.type "object")], ns := 23, qualname := (sS "PostError"), hasDict := true, slotNames := [], subclasses := [(.ref 37), (.ref 49)], abstract := false, collection := none, hasDel := false }), ⟨[(some (.ref 15)), none, (some (.str (sS "PostError") 189)), (some (.str (sS "PostError") 197)), (some (.builtin "ValueError.__new__")), (some (.bool true))]⟩⟩
noncomputable def o40x0 (P : Params) : Obj := ⟨(.type "tuple"), none, (.seq ⟨[(.ref 24)]⟩ 0), ⟨[]⟩⟩
noncomputable def o41x0 (P : Params) : Obj := ⟨(.type "builtin_function_or_method"), none, (.fields ⟨[(.builtin "type.__prepare__"), (.type "type")]⟩), ⟨[]⟩⟩
noncomputable def o42x0 (P : Params) : Obj := ⟨(.type "dict"), none, (.dict ⟨[en P "__module__" 230 (.str (sS "ringpost.errors") 187), en P "__qualname__" 232 (.str (sS "BadRing") 231), en P "__firstlineno__" 234 (.int (6) 233), en P "__static_attributes__" 235 (.ref 47)]⟩ 4), ⟨[]⟩⟩
noncomputable def o43x0 (P : Params) : Obj := ⟨(.type "tuple"), none, (.seq ⟨[]⟩ 0), ⟨[]⟩⟩
noncomputable def o44x0 (P : Params) : Obj := ⟨.none, none, (.fields ⟨[]⟩), ⟨[]⟩⟩
noncomputable def o45x0 (P : Params) : Obj := ⟨(.type "code"), none, (.fields ⟨[(.str (sS "BadRing") 225), (.str (sS "BadRing") 226), (.str (sS "/claim/cut.py") 227), (.int (6) 0), (.int (0) 0), (.int (0) 0), (.int (0) 0), (.int (0) 0), (.ref 43), (.bool false), (.int (181) 0), (.ref 44), .none, .none, .none, .none, (.int (228) 0), (.int (6) 0), (.str (sS "/claim/cut.py") 229)]⟩), ⟨[]⟩⟩
noncomputable def o46x0 (P : Params) : Obj := ⟨(.type "frame"), none, .plain, ⟨[(some (.ref 45)), (some (.ref 3)), (some (.ref 42)), none, (some (.str (sS "ringpost.errors") 187)), none, (some (.ref 0))]⟩⟩
noncomputable def o47x0 (P : Params) : Obj := ⟨(.type "tuple"), none, (.seq ⟨[]⟩ 0), ⟨[]⟩⟩
noncomputable def o48x0 (P : Params) : Obj := ⟨(.type "dict"), none, (.dict ⟨[en P "__module__" 230 (.str (sS "ringpost.errors") 187), en P "__firstlineno__" 234 (.int (6) 233), en P "__static_attributes__" 235 (.ref 47), en P "__doc__" 236 .none]⟩ 2), ⟨[]⟩⟩
noncomputable def o49x0 (P : Params) : Obj := ⟨(.type "type"), none, (.cls { name := (sS "BadRing"), bases := [(.ref 24)], mro := [(.ref 49), (.ref 24), (.type "ValueError"), (.type "Exception"), (.type "BaseException"), (.type "object")], ns := 48, qualname := (sS "BadRing"), hasDict := true, slotNames := [], subclasses := [], abstract := false, collection := none, hasDel := false }), ⟨[(some (.ref 40)), none, (some (.str (sS "BadRing") 223)), (some (.str (sS "BadRing") 231)), (some (.builtin "ValueError.__new__")), (some (.bool true))]⟩⟩
noncomputable def o50x0 (P : Params) : Obj := ⟨(.type "super"), none, (.fields ⟨[(.ref 49), (.ref 49), (.ref 49)]⟩), ⟨[]⟩⟩
noncomputable def o51x0 (P : Params) : Obj := ⟨(.type "builtin_function_or_method"), none, (.fields ⟨[(.builtin "object.__init_subclass__"), (.ref 49)]⟩), ⟨[]⟩⟩
noncomputable def t13 (P : Params) : BT := (.node (boot_o_7 P) (.node (o15x0 P) (.node (o31x0 P) .nil .nil) (.node (o47x0 P) .nil .nil)) (.node (o23x0 P) (.node (o39x0 P) .nil .nil) .nil))
noncomputable def t14 (P : Params) : BT := (.node (o11x0 P) (.node (o19x0 P) (.node (o35x0 P) .nil .nil) (.node (o51x0 P) .nil .nil)) (.node (o27x0 P) (.node (o43x0 P) .nil .nil) .nil))
noncomputable def t15 (P : Params) : BT := (.node (boot_o_9 P) (.node (o17x0 P) (.node (o33x0 P) .nil .nil) (.node (o49x0 P) .nil .nil)) (.node (o25x0 P) (.node (o41x0 P) .nil .nil) .nil))
noncomputable def t16 (P : Params) : BT := (.node (boot_o_5 P) (t15 P) (.node (o13x0 P) (.node (o21x0 P) (.node (o37x0 P) .nil .nil) .nil) (.node (o29x0 P) (.node (o45x0 P) .nil .nil) .nil)))
noncomputable def t17 (P : Params) : BT := (.node (boot_o_8 P) (.node (o16x0 P) (.node (o32x0 P) .nil .nil) (.node (o48x0 P) .nil .nil)) (.node (o24x2 P) (.node (o40x0 P) .nil .nil) .nil))
noncomputable def t18 (P : Params) : BT := (.node (boot_o_4 P) (t17 P) (.node (o12x3 P) (.node (o20x0 P) (.node (o36x0 P) .nil .nil) .nil) (.node (o28x0 P) (.node (o44x0 P) .nil .nil) .nil)))
noncomputable def t19 (P : Params) : BT := (.node (boot_o_10 P) (.node (o18x0 P) (.node (o34x0 P) .nil .nil) (.node (o50x0 P) .nil .nil)) (.node (o26x0 P) (.node (o42x0 P) .nil .nil) .nil))
noncomputable def t20 (P : Params) : BT := (.node (boot_o_6 P) (t19 P) (.node (o14x0 P) (.node (o22x0 P) (.node (o38x0 P) .nil .nil) .nil) (.node (o30x0 P) (.node (o46x0 P) .nil .nil) .nil)))
noncomputable def t21 (P : Params) : BT := (.node (boot_o_0 P) (.node (boot_o_1 P) (.node (o3x2 P) (t13 P) (t14 P)) (t16 P)) (.node (boot_o_2 P) (t18 P) (t20 P)))
noncomputable def S3 (w : World) (os : OsState) : SharedT := (fun P => ⟨(t21 P), 52, lf0, ⟨[]⟩, ⟨0, 0, 0, 0⟩, 239, os⟩ : Params → SharedT) w.params
noncomputable def sts2 : List Stmt := ((behindTheImports pw).drop 3).take 1
noncomputable def pc2P (w : World) : Prop := (fun os => segRunT treeTable pw w m0 ann 1 214 (S2 w os) (piecesOf sts2 env cE ⟨4, 0, 5, 8⟩ B)) = fun os => some (Flow.next, S3 w os, cE, ⟨6, 0, 7, 8⟩)
theorem pc2 (w : World) : pc2P w := by
  unfold pc2P
  rw [PySem.W.Fast.te10110043849684766642, PySem.W.Fast.te14364793385576792824]
  kernel_rfl
noncomputable def o3x3 (P : Params) : Obj := ⟨(.type "dict"), none, (.dict ⟨[en P "__name__" 165 (.str (sS "ringpost.errors") 187), en P "__doc__" 166 .none, en P "__package__" 167 .none, en P "__loader__" 168 (.builtin "__main__.__loader__#opaque"), en P "__spec__" 169 .none, en P "__annotations__" 170 (.ref 6), en P "__builtins__" 171 (.ref 4), en P "__file__" 173 (.str (sS "/claim/cut.py") 172), en P "__cached__" 174 .none, en P "PostError" 206 (.ref 24), en P "BadBounds" 222 (.ref 37), en P "BadRing" 238 (.ref 49), en P "BadTexts" 254 (.ref 61)]⟩ 13), ⟨[]⟩⟩
noncomputable def o12x4 (P : Params) : Obj := ⟨.none, none, (.fields ⟨[(.int (2) 0), (.int (0) 0), (.ref 20), (.int (4) 0), (.int (0) 0), (.ref 33), (.int (6) 0), (.int (0) 0), (.ref 45), (.int (8) 0), (.int (0) 0), (.ref 57)]⟩), ⟨[]⟩⟩
noncomputable def o24x3 (P : Params) : Obj := ⟨(.type "type"), none, (.cls { name := (sS "PostError"), bases := [(.type "ValueError")], mro := [(.ref 24), (.type "ValueError"), (.type "Exception"), (.type "BaseException"), (.type "object")], ns := 23, qualname := (sS "PostError"), hasDict := true, slotNames := [], subclasses := [(.ref 37), (.ref 49), (.ref 61)], abstract := false, collection := none, hasDel := false }), ⟨[(some (.ref 15)), none, (some (.str (sS "PostError") 189)), (some (.str (sS "PostError") 197)), (some (.builtin "ValueError.__new__")), (some (.bool true))]⟩⟩
noncomputable def o52x0 (P : Params) : Obj := ⟨(.type "tuple"), none, (.seq ⟨[(.ref 24)]⟩ 0), ⟨[]⟩⟩
noncomputable def o53x0 (P : Params) : Obj := ⟨(.type "builtin_function_or_method"), none, (.fields ⟨[(.builtin "type.__prepare__"), (.type "type")]⟩), ⟨[]⟩⟩
noncomputable def o54x0 (P : Params) : Obj := ⟨(.type "dict"), none, (.dict ⟨[en P "__module__" 246 (.str (sS "ringpost.errors") 187), en P "__qualname__" 248 (.str (sS "BadTexts") 247), en P "__firstlineno__" 250 (.int (8) 249), en P "__static_attributes__" 251 (.ref 59)]⟩ 4), ⟨[]⟩⟩
noncomputable def o55x0 (P : Params) : Obj := ⟨(.type "tuple"), none, (.seq ⟨[]⟩ 0), ⟨[]⟩⟩
noncomputable def o56x0 (P : Params) : Obj := ⟨.none, none, (.fields ⟨[]⟩), ⟨[]⟩⟩
noncomputable def o57x0 (P : Params) : Obj := ⟨(.type "code"), none, (.fields ⟨[(.str (sS "BadTexts") 241), (.str (sS "BadTexts") 242), (.str (sS "/claim/cut.py") 243), (.int (8) 0), (.int (0) 0), (.int (0) 0), (.int (0) 0), (.int (0) 0), (.ref 55), (.bool false), (.int (181) 0), (.ref 56), .none, .none, .none, .none, (.int (244) 0), (.int (8) 0), (.str (sS "/claim/cut.py") 245)]⟩), ⟨[]⟩⟩
noncomputable def o58x0 (P : Params) : Obj := ⟨(.type "frame"), none, .plain, ⟨[(some (.ref 57)), (some (.ref 3)), (some (.ref 54)), none, (some (.str (sS "ringpost.errors") 187)), none, (some (.ref 0))]⟩⟩
noncomputable def o59x0 (P : Params) : Obj := ⟨(.type "tuple"), none, (.seq ⟨[]⟩ 0), ⟨[]⟩⟩
noncomputable def o60x0 (P : Params) : Obj := ⟨(.type "dict"), none, (.dict ⟨[en P "__module__" 246 (.str (sS "ringpost.errors") 187), en P "__firstlineno__" 250 (.int (8) 249), en P "__static_attributes__" 251 (.ref 59), en P "__doc__" 252 .none]⟩ 2), ⟨[]⟩⟩
noncomputable def o61x0 (P : Params) : Obj := ⟨(.type "type"), none, (.cls { name := (sS "BadTexts"), bases := [(.ref 24)], mro := [(.ref 61), (.ref 24), (.type "ValueError"), (.type "Exception"), (.type "BaseException"), (.type "object")], ns := 60, qualname := (sS "BadTexts"), hasDict := true, slotNames := [], subclasses := [], abstract := false, collection := none, hasDel := false }), ⟨[(some (.ref 52)), none, (some (.str (sS "BadTexts") 239)), (some (.str (sS "BadTexts") 247)), (some (.builtin "ValueError.__new__")), (some (.bool true))]⟩⟩
noncomputable def o62x0 (P : Params) : Obj := ⟨(.type "super"), none, (.fields ⟨[(.ref 61), (.ref 61), (.ref 61)]⟩), ⟨[]⟩⟩
noncomputable def o63x0 (P : Params) : Obj := ⟨(.type "builtin_function_or_method"), none, (.fields ⟨[(.builtin "object.__init_subclass__"), (.ref 61)]⟩), ⟨[]⟩⟩
noncomputable def t22 (P : Params) : BT := (.node (boot_o_7 P) (.node (o15x0 P) (.node (o31x0 P) (.node (o63x0 P) .nil .nil) .nil) (.node (o47x0 P) .nil .nil)) (.node (o23x0 P) (.node (o39x0 P) .nil .nil) (.node (o55x0 P) .nil .nil)))
noncomputable def t23 (P : Params) : BT := (.node (o11x0 P) (.node (o19x0 P) (.node (o35x0 P) .nil .nil) (.node (o51x0 P) .nil .nil)) (.node (o27x0 P) (.node (o43x0 P) .nil .nil) (.node (o59x0 P) .nil .nil)))
noncomputable def t24 (P : Params) : BT := (.node (boot_o_9 P) (.node (o17x0 P) (.node (o33x0 P) .nil .nil) (.node (o49x0 P) .nil .nil)) (.node (o25x0 P) (.node (o41x0 P) .nil .nil) (.node (o57x0 P) .nil .nil)))
noncomputable def t25 (P : Params) : BT := (.node (o13x0 P) (.node (o21x0 P) (.node (o37x0 P) .nil .nil) (.node (o53x0 P) .nil .nil)) (.node (o29x0 P) (.node (o45x0 P) .nil .nil) (.node (o61x0 P) .nil .nil)))
noncomputable def t26 (P : Params) : BT := (.node (boot_o_1 P) (.node (o3x3 P) (t22 P) (t23 P)) (.node (boot_o_5 P) (t24 P) (t25 P)))
noncomputable def t27 (P : Params) : BT := (.node (boot_o_8 P) (.node (o16x0 P) (.node (o32x0 P) .nil .nil) (.node (o48x0 P) .nil .nil)) (.node (o24x3 P) (.node (o40x0 P) .nil .nil) (.node (o56x0 P) .nil .nil)))
noncomputable def t28 (P : Params) : BT := (.node (o12x4 P) (.node (o20x0 P) (.node (o36x0 P) .nil .nil) (.node (o52x0 P) .nil .nil)) (.node (o28x0 P) (.node (o44x0 P) .nil .nil) (.node (o60x0 P) .nil .nil)))
noncomputable def t29 (P : Params) : BT := (.node (boot_o_10 P) (.node (o18x0 P) (.node (o34x0 P) .nil .nil) (.node (o50x0 P) .nil .nil)) (.node (o26x0 P) (.node (o42x0 P) .nil .nil) (.node (o58x0 P) .nil .nil)))
noncomputable def t30 (P : Params) : BT := (.node (o14x0 P) (.node (o22x0 P) (.node (o38x0 P) .nil .nil) (.node (o54x0 P) .nil .nil)) (.node (o30x0 P) (.node (o46x0 P) .nil .nil) (.node (o62x0 P) .nil .nil)))
noncomputable def t31 (P : Params) : BT := (.node (boot_o_2 P) (.node (boot_o_4 P) (t27 P) (t28 P)) (.node (boot_o_6 P) (t29 P) (t30 P)))
noncomputable def S4 (w : World) (os : OsState) : SharedT := (fun P => ⟨(.node (boot_o_0 P) (t26 P) (t31 P)), 64, lf0, ⟨[]⟩, ⟨0, 0, 0, 0⟩, 255, os⟩ : Params → SharedT) w.params
noncomputable def sts3 : List Stmt := ((behindTheImports pw).drop 4).take 1
noncomputable def pc3P (w : World) : Prop := (fun os => segRunT treeTable pw w m0 ann 1 214 (S3 w os) (piecesOf sts3 env cE ⟨6, 0, 7, 8⟩ B)) = fun os => some (Flow.next, S4 w os, cE, ⟨8, 0, 9, 8⟩)
theorem pc3 (w : World) : pc3P w := by
  unfold pc3P
  rw [PySem.W.Fast.te10110043849684766642, PySem.W.Fast.te14364793385576792824]
  kernel_rfl
noncomputable def o3x4 (P : Params) : Obj := ⟨(.type "dict"), none, (.dict ⟨[en P "__name__" 165 (.str (sS "ringpost.errors") 187), en P "__doc__" 166 .none, en P "__package__" 167 .none, en P "__loader__" 168 (.builtin "__main__.__loader__#opaque"), en P "__spec__" 169 .none, en P "__annotations__" 170 (.ref 6), en P "__builtins__" 171 (.ref 4), en P "__file__" 173 (.str (sS "/claim/cut.py") 172), en P "__cached__" 174 .none, en P "PostError" 206 (.ref 24), en P "BadBounds" 222 (.ref 37), en P "BadRing" 238 (.ref 49), en P "BadTexts" 254 (.ref 61), en P "BadStep" 270 (.ref 73)]⟩ 14), ⟨[]⟩⟩
noncomputable def o12x5 (P : Params) : Obj := ⟨.none, none, (.fields ⟨[(.int (2) 0), (.int (0) 0), (.ref 20), (.int (4) 0), (.int (0) 0), (.ref 33), (.int (6) 0), (.int (0) 0), (.ref 45), (.int (8) 0), (.int (0) 0), (.ref 57), (.int (10) 0), (.int (0) 0), (.ref 69)]⟩), ⟨[]⟩⟩
noncomputable def o24x4 (P : Params) : Obj := ⟨(.type "type"), none, (.cls { name := (sS "PostError"), bases := [(.type "ValueError")], mro := [(.ref 24), (.type "ValueError"), (.type "Exception"), (.type "BaseException"), (.type "object")], ns := 23, qualname := (sS "PostError"), hasDict := true, slotNames := [], subclasses := [(.ref 37), (.ref 49), (.ref 61), (.ref 73)], abstract := false, collection := none, hasDel := false }), ⟨[(some (.ref 15)), none, (some (.str (sS "PostError") 189)), (some (.str (sS "PostError") 197)), (some (.builtin "ValueError.__new__")), (some (.bool true))]⟩⟩
noncomputable def o64x0 (P : Params) : Obj := ⟨(.type "tuple"), none, (.seq ⟨[(.ref 24)]⟩ 0), ⟨[]⟩⟩
noncomputable def o65x0 (P : Params) : Obj := ⟨(.type "builtin_function_or_method"), none, (.fields ⟨[(.builtin "type.__prepare__"), (.type "type")]⟩), ⟨[]⟩⟩
noncomputable def o66x0 (P : Params) : Obj := ⟨(.type "dict"), none, (.dict ⟨[en P "__module__" 262 (.str (sS "ringpost.errors") 187), en P "__qualname__" 264 (.str (sS "BadStep") 263), en P "__firstlineno__" 266 (.int (10) 265), en P "__static_attributes__" 267 (.ref 71)]⟩ 4), ⟨[]⟩⟩
noncomputable def o67x0 (P : Params) : Obj := ⟨(.type "tuple"), none, (.seq ⟨[]⟩ 0), ⟨[]⟩⟩
noncomputable def o68x0 (P : Params) : Obj := ⟨.none, none, (.fields ⟨[]⟩), ⟨[]⟩⟩
noncomputable def o69x0 (P : Params) : Obj := ⟨(.type "code"), none, (.fields ⟨[(.str (sS "BadStep") 257), (.str (sS "BadStep") 258), (.str (sS "/claim/cut.py") 259), (.int (10) 0), (.int (0) 0), (.int (0) 0), (.int (0) 0), (.int (0) 0), (.ref 67), (.bool false), (.int (181) 0), (.ref 68), .none, .none, .none, .none, (.int (260) 0), (.int (10) 0), (.str (sS "/claim/cut.py") 261)]⟩), ⟨[]⟩⟩
noncomputable def o70x0 (P : Params) : Obj := ⟨(.type "frame"), none, .plain, ⟨[(some (.ref 69)), (some (.ref 3)), (some (.ref 66)), none, (some (.str (sS "ringpost.errors") 187)), none, (some (.ref 0))]⟩⟩
noncomputable def o71x0 (P : Params) : Obj := ⟨(.type "tuple"), none, (.seq ⟨[]⟩ 0), ⟨[]⟩⟩
noncomputable def o72x0 (P : Params) : Obj := ⟨(.type "dict"), none, (.dict ⟨[en P "__module__" 262 (.str (sS "ringpost.errors") 187), en P "__firstlineno__" 266 (.int (10) 265), en P "__static_attributes__" 267 (.ref 71), en P "__doc__" 268 .none]⟩ 2), ⟨[]⟩⟩
noncomputable def o73x0 (P : Params) : Obj := ⟨(.type "type"), none, (.cls { name := (sS "BadStep"), bases := [(.ref 24)], mro := [(.ref 73), (.ref 24), (.type "ValueError"), (.type "Exception"), (.type "BaseException"), (.type "object")], ns := 72, qualname := (sS "BadStep"), hasDict := true, slotNames := [], subclasses := [], abstract := false, collection := none, hasDel := false }), ⟨[(some (.ref 64)), none, (some (.str (sS "BadStep") 255)), (some (.str (sS "BadStep") 263)), (some (.builtin "ValueError.__new__")), (some (.bool true))]⟩⟩
noncomputable def o74x0 (P : Params) : Obj := ⟨(.type "super"), none, (.fields ⟨[(.ref 73), (.ref 73), (.ref 73)]⟩), ⟨[]⟩⟩
noncomputable def o75x0 (P : Params) : Obj := ⟨(.type "builtin_function_or_method"), none, (.fields ⟨[(.builtin "object.__init_subclass__"), (.ref 73)]⟩), ⟨[]⟩⟩
noncomputable def t32 (P : Params) : BT := (.node (boot_o_7 P) (.node (o15x0 P) (.node (o31x0 P) (.node (o63x0 P) .nil .nil) .nil) (.node (o47x0 P) .nil .nil)) (.node (o23x0 P) (.node (o39x0 P) (.node (o71x0 P) .nil .nil) .nil) (.node (o55x0 P) .nil .nil)))
noncomputable def t33 (P : Params) : BT := (.node (o11x0 P) (.node (o19x0 P) (.node (o35x0 P) (.node (o67x0 P) .nil .nil) .nil) (.node (o51x0 P) .nil .nil)) (.node (o27x0 P) (.node (o43x0 P) (.node (o75x0 P) .nil .nil) .nil) (.node (o59x0 P) .nil .nil)))
noncomputable def t34 (P : Params) : BT := (.node (boot_o_9 P) (.node (o17x0 P) (.node (o33x0 P) (.node (o65x0 P) .nil .nil) .nil) (.node (o49x0 P) .nil .nil)) (.node (o25x0 P) (.node (o41x0 P) (.node (o73x0 P) .nil .nil) .nil) (.node (o57x0 P) .nil .nil)))
noncomputable def t35 (P : Params) : BT := (.node (o13x0 P) (.node (o21x0 P) (.node (o37x0 P) (.node (o69x0 P) .nil .nil) .nil) (.node (o53x0 P) .nil .nil)) (.node (o29x0 P) (.node (o45x0 P) .nil .nil) (.node (o61x0 P) .nil .nil)))
noncomputable def t36 (P : Params) : BT := (.node (boot_o_1 P) (.node (o3x4 P) (t32 P) (t33 P)) (.node (boot_o_5 P) (t34 P) (t35 P)))
noncomputable def t37 (P : Params) : BT := (.node (boot_o_8 P) (.node (o16x0 P) (.node (o32x0 P) (.node (o64x0 P) .nil .nil) .nil) (.node (o48x0 P) .nil .nil)) (.node (o24x4 P) (.node (o40x0 P) (.node (o72x0 P) .nil .nil) .nil) (.node (o56x0 P) .nil .nil)))
noncomputable def t38 (P : Params) : BT := (.node (o12x5 P) (.node (o20x0 P) (.node (o36x0 P) (.node (o68x0 P) .nil .nil) .nil) (.node (o52x0 P) .nil .nil)) (.node (o28x0 P) (.node (o44x0 P) .nil .nil) (.node (o60x0 P) .nil .nil)))
noncomputable def t39 (P : Params) : BT := (.node (boot_o_10 P) (.node (o18x0 P) (.node (o34x0 P) (.node (o66x0 P) .nil .nil) .nil) (.node (o50x0 P) .nil .nil)) (.node (o26x0 P) (.node (o42x0 P) (.node (o74x0 P) .nil .nil) .nil) (.node (o58x0 P) .nil .nil)))
noncomputable def t40 (P : Params) : BT := (.node (o14x0 P) (.node (o22x0 P) (.node (o38x0 P) (.node (o70x0 P) .nil .nil) .nil) (.node (o54x0 P) .nil .nil)) (.node (o30x0 P) (.node (o46x0 P) .nil .nil) (.node (o62x0 P) .nil .nil)))
noncomputable def t41 (P : Params) : BT := (.node (boot_o_2 P) (.node (boot_o_4 P) (t37 P) (t38 P)) (.node (boot_o_6 P) (t39 P) (t40 P)))
noncomputable def S5 (w : World) (os : OsState) : SharedT := (fun P => ⟨(.node (boot_o_0 P) (t36 P) (t41 P)), 76, lf0, ⟨[]⟩, ⟨0, 0, 0, 0⟩, 271, os⟩ : Params → SharedT) w.params
noncomputable def sts4 : List Stmt := ((behindTheImports pw).drop 5).take 1
noncomputable def pc4P (w : World) : Prop := (fun os => segRunT treeTable pw w m0 ann 1 214 (S4 w os) (piecesOf sts4 env cE ⟨8, 0, 9, 8⟩ B)) = fun os => some (Flow.next, S5 w os, cE, ⟨10, 0, 11, 8⟩)
theorem pc4 (w : World) : pc4P w := by
  unfold pc4P
  rw [PySem.W.Fast.te10110043849684766642, PySem.W.Fast.te14364793385576792824]
  kernel_rfl
noncomputable def o3x5 (P : Params) : Obj := ⟨(.type "dict"), none, (.dict ⟨[en P "__name__" 165 (.str (sS "ringpost.errors") 187), en P "__doc__" 166 .none, en P "__package__" 167 .none, en P "__loader__" 168 (.builtin "__main__.__loader__#opaque"), en P "__spec__" 169 .none, en P "__annotations__" 170 (.ref 6), en P "__builtins__" 171 (.ref 4), en P "__file__" 173 (.str (sS "/claim/cut.py") 172), en P "__cached__" 174 .none, en P "PostError" 206 (.ref 24), en P "BadBounds" 222 (.ref 37), en P "BadRing" 238 (.ref 49), en P "BadTexts" 254 (.ref 61), en P "BadStep" 270 (.ref 73), en P "NotNow" 286 (.ref 85)]⟩ 15), ⟨[]⟩⟩
noncomputable def o12x6 (P : Params) : Obj := ⟨.none, none, (.fields ⟨[(.int (2) 0), (.int (0) 0), (.ref 20), (.int (4) 0), (.int (0) 0), (.ref 33), (.int (6) 0), (.int (0) 0), (.ref 45), (.int (8) 0), (.int (0) 0), (.ref 57), (.int (10) 0), (.int (0) 0), (.ref 69), (.int (12) 0), (.int (0) 0), (.ref 81)]⟩), ⟨[]⟩⟩
noncomputable def o24x5 (P : Params) : Obj := ⟨(.type "type"), none, (.cls { name := (sS "PostError"), bases := [(.type "ValueError")], mro := [(.ref 24), (.type "ValueError"), (.type "Exception"), (.type "BaseException"), (.type "object")], ns := 23, qualname := (sS "PostError"), hasDict := true, slotNames := [], subclasses := [(.ref 37), (.ref 49), (.ref 61), (.ref 73), (.ref 85)], abstract := false, collection := none, hasDel := false }), ⟨[(some (.ref 15)), none, (some (.str (sS "PostError") 189)), (some (.str (sS "PostError") 197)), (some (.builtin "ValueError.__new__")), (some (.bool true))]⟩⟩
noncomputable def o76x0 (P : Params) : Obj := ⟨(.type "tuple"), none, (.seq ⟨[(.ref 24)]⟩ 0), ⟨[]⟩⟩
noncomputable def o77x0 (P : Params) : Obj := ⟨(.type "builtin_function_or_method"), none, (.fields ⟨[(.builtin "type.__prepare__"), (.type "type")]⟩), ⟨[]⟩⟩
noncomputable def o78x0 (P : Params) : Obj := ⟨(.type "dict"), none, (.dict ⟨[en P "__module__" 278 (.str (sS "ringpost.errors") 187), en P "__qualname__" 280 (.str (sS "NotNow") 279), en P "__firstlineno__" 282 (.int (12) 281), en P "__static_attributes__" 283 (.ref 83)]⟩ 4), ⟨[]⟩⟩
noncomputable def o79x0 (P : Params) : Obj := ⟨(.type "tuple"), none, (.seq ⟨[]⟩ 0), ⟨[]⟩⟩
noncomputable def o80x0 (P : Params) : Obj := ⟨.none, none, (.fields ⟨[]⟩), ⟨[]⟩⟩
noncomputable def o81x0 (P : Params) : Obj := ⟨(.type "code"), none, (.fields ⟨[(.str (sS "NotNow") 273), (.str (sS "NotNow") 274), (.str (sS "/claim/cut.py") 275), (.int (12) 0), (.int (0) 0), (.int (0) 0), (.int (0) 0), (.int (0) 0), (.ref 79), (.bool false), (.int (181) 0), (.ref 80), .none, .none, .none, .none, (.int (276) 0), (.int (12) 0), (.str (sS "/claim/cut.py") 277)]⟩), ⟨[]⟩⟩
noncomputable def o82x0 (P : Params) : Obj := ⟨(.type "frame"), none, .plain, ⟨[(some (.ref 81)), (some (.ref 3)), (some (.ref 78)), none, (some (.str (sS "ringpost.errors") 187)), none, (some (.ref 0))]⟩⟩
noncomputable def o83x0 (P : Params) : Obj := ⟨(.type "tuple"), none, (.seq ⟨[]⟩ 0), ⟨[]⟩⟩
noncomputable def o84x0 (P : Params) : Obj := ⟨(.type "dict"), none, (.dict ⟨[en P "__module__" 278 (.str (sS "ringpost.errors") 187), en P "__firstlineno__" 282 (.int (12) 281), en P "__static_attributes__" 283 (.ref 83), en P "__doc__" 284 .none]⟩ 2), ⟨[]⟩⟩
noncomputable def o85x0 (P : Params) : Obj := ⟨(.type "type"), none, (.cls { name := (sS "NotNow"), bases := [(.ref 24)], mro := [(.ref 85), (.ref 24), (.type "ValueError"), (.type "Exception"), (.type "BaseException"), (.type "object")], ns := 84, qualname := (sS "NotNow"), hasDict := true, slotNames := [], subclasses := [], abstract := false, collection := none, hasDel := false }), ⟨[(some (.ref 76)), none, (some (.str (sS "NotNow") 271)), (some (.str (sS "NotNow") 279)), (some (.builtin "ValueError.__new__")), (some (.bool true))]⟩⟩
noncomputable def o86x0 (P : Params) : Obj := ⟨(.type "super"), none, (.fields ⟨[(.ref 85), (.ref 85), (.ref 85)]⟩), ⟨[]⟩⟩
noncomputable def o87x0 (P : Params) : Obj := ⟨(.type "builtin_function_or_method"), none, (.fields ⟨[(.builtin "object.__init_subclass__"), (.ref 85)]⟩), ⟨[]⟩⟩
noncomputable def t42 (P : Params) : BT := (.node (boot_o_7 P) (.node (o15x0 P) (.node (o31x0 P) (.node (o63x0 P) .nil .nil) .nil) (.node (o47x0 P) (.node (o79x0 P) .nil .nil) .nil)) (.node (o23x0 P) (.node (o39x0 P) (.node (o71x0 P) .nil .nil) .nil) (.node (o55x0 P) (.node (o87x0 P) .nil .nil) .nil)))
noncomputable def t43 (P : Params) : BT := (.node (o11x0 P) (.node (o19x0 P) (.node (o35x0 P) (.node (o67x0 P) .nil .nil) .nil) (.node (o51x0 P) (.node (o83x0 P) .nil .nil) .nil)) (.node (o27x0 P) (.node (o43x0 P) (.node (o75x0 P) .nil .nil) .nil) (.node (o59x0 P) .nil .nil)))
noncomputable def t44 (P : Params) : BT := (.node (boot_o_9 P) (.node (o17x0 P) (.node (o33x0 P) (.node (o65x0 P) .nil .nil) .nil) (.node (o49x0 P) (.node (o81x0 P) .nil .nil) .nil)) (.node (o25x0 P) (.node (o41x0 P) (.node (o73x0 P) .nil .nil) .nil) (.node (o57x0 P) .nil .nil)))
noncomputable def t45 (P : Params) : BT := (.node (o13x0 P) (.node (o21x0 P) (.node (o37x0 P) (.node (o69x0 P) .nil .nil) .nil) (.node (o53x0 P) (.node (o85x0 P) .nil .nil) .nil)) (.node (o29x0 P) (.node (o45x0 P) (.node (o77x0 P) .nil .nil) .nil) (.node (o61x0 P) .nil .nil)))
noncomputable def t46 (P : Params) : BT := (.node (boot_o_1 P) (.node (o3x5 P) (t42 P) (t43 P)) (.node (boot_o_5 P) (t44 P) (t45 P)))
noncomputable def t47 (P : Params) : BT := (.node (boot_o_8 P) (.node (o16x0 P) (.node (o32x0 P) (.node (o64x0 P) .nil .nil) .nil) (.node (o48x0 P) (.node (o80x0 P) .nil .nil) .nil)) (.node (o24x5 P) (.node (o40x0 P) (.node (o72x0 P) .nil .nil) .nil) (.node (o56x0 P) .nil .nil)))
noncomputable def t48 (P : Params) : BT := (.node (o12x6 P) (.node (o20x0 P) (.node (o36x0 P) (.node (o68x0 P) .nil .nil) .nil) (.node (o52x0 P) (.node (o84x0 P) .nil .nil) .nil)) (.node (o28x0 P) (.node (o44x0 P) (.node (o76x0 P) .nil .nil) .nil) (.node (o60x0 P) .nil .nil)))
noncomputable def t49 (P : Params) : BT := (.node (boot_o_10 P) (.node (o18x0 P) (.node (o34x0 P) (.node (o66x0 P) .nil .nil) .nil) (.node (o50x0 P) (.node (o82x0 P) .nil .nil) .nil)) (.node (o26x0 P) (.node (o42x0 P) (.node (o74x0 P) .nil .nil) .nil) (.node (o58x0 P) .nil .nil)))
noncomputable def t50 (P : Params) : BT := (.node (o14x0 P) (.node (o22x0 P) (.node (o38x0 P) (.node (o70x0 P) .nil .nil) .nil) (.node (o54x0 P) (.node (o86x0 P) .nil .nil) .nil)) (.node (o30x0 P) (.node (o46x0 P) (.node (o78x0 P) .nil .nil) .nil) (.node (o62x0 P) .nil .nil)))
noncomputable def t51 (P : Params) : BT := (.node (boot_o_2 P) (.node (boot_o_4 P) (t47 P) (t48 P)) (.node (boot_o_6 P) (t49 P) (t50 P)))
noncomputable def S6 (w : World) (os : OsState) : SharedT := (fun P => ⟨(.node (boot_o_0 P) (t46 P) (t51 P)), 88, lf0, ⟨[]⟩, ⟨0, 0, 0, 0⟩, 287, os⟩ : Params → SharedT) w.params
noncomputable def sts5 : List Stmt := ((behindTheImports pw).drop 6).take 1
noncomputable def pc5P (w : World) : Prop := (fun os => segRunT treeTable pw w m0 ann 1 214 (S5 w os) (piecesOf sts5 env cE ⟨10, 0, 11, 8⟩ B)) = fun os => some (Flow.next, S6 w os, cE, ⟨12, 0, 13, 8⟩)
theorem pc5 (w : World) : pc5P w := by
  unfold pc5P
  rw [PySem.W.Fast.te10110043849684766642, PySem.W.Fast.te14364793385576792824]
  kernel_rfl
noncomputable def o3x6 (P : Params) : Obj := ⟨(.type "dict"), none, (.dict ⟨[en P "__name__" 165 (.str (sS "ringpost.errors") 187), en P "__doc__" 166 .none, en P "__package__" 167 .none, en P "__loader__" 168 (.builtin "__main__.__loader__#opaque"), en P "__spec__" 169 .none, en P "__annotations__" 170 (.ref 6), en P "__builtins__" 171 (.ref 4), en P "__file__" 173 (.str (sS "/claim/cut.py") 172), en P "__cached__" 174 .none, en P "PostError" 206 (.ref 24), en P "BadBounds" 222 (.ref 37), en P "BadRing" 238 (.ref 49), en P "BadTexts" 254 (.ref 61), en P "BadStep" 270 (.ref 73), en P "NotNow" 286 (.ref 85), en P "NoLetter" 302 (.ref 97)]⟩ 16), ⟨[]⟩⟩
noncomputable def o12x7 (P : Params) : Obj := ⟨.none, none, (.fields ⟨[(.int (2) 0), (.int (0) 0), (.ref 20), (.int (4) 0), (.int (0) 0), (.ref 33), (.int (6) 0), (.int (0) 0), (.ref 45), (.int (8) 0), (.int (0) 0), (.ref 57), (.int (10) 0), (.int (0) 0), (.ref 69), (.int (12) 0), (.int (0) 0), (.ref 81), (.int (14) 0), (.int (0) 0), (.ref 93)]⟩), ⟨[]⟩⟩
noncomputable def o24x6 (P : Params) : Obj := ⟨(.type "type"), none, (.cls { name := (sS "PostError"), bases := [(.type "ValueError")], mro := [(.ref 24), (.type "ValueError"), (.type "Exception"), (.type "BaseException"), (.type "object")], ns := 23, qualname := (sS "PostError"), hasDict := true, slotNames := [], subclasses := [(.ref 37), (.ref 49), (.ref 61), (.ref 73), (.ref 85), (.ref 97)], abstract := false, collection := none, hasDel := false }), ⟨[(some (.ref 15)), none, (some (.str (sS "PostError") 189)), (some (.str (sS "PostError") 197)), (some (.builtin "ValueError.__new__")), (some (.bool true))]⟩⟩
noncomputable def o88x0 (P : Params) : Obj := ⟨(.type "tuple"), none, (.seq ⟨[(.ref 24)]⟩ 0), ⟨[]⟩⟩
noncomputable def o89x0 (P : Params) : Obj := ⟨(.type "builtin_function_or_method"), none, (.fields ⟨[(.builtin "type.__prepare__"), (.type "type")]⟩), ⟨[]⟩⟩
noncomputable def o90x0 (P : Params) : Obj := ⟨(.type "dict"), none, (.dict ⟨[en P "__module__" 294 (.str (sS "ringpost.errors") 187), en P "__qualname__" 296 (.str (sS "NoLetter") 295), en P "__firstlineno__" 298 (.int (14) 297), en P "__static_attributes__" 299 (.ref 95)]⟩ 4), ⟨[]⟩⟩
noncomputable def o91x0 (P : Params) : Obj := ⟨(.type "tuple"), none, (.seq ⟨[]⟩ 0), ⟨[]⟩⟩
noncomputable def o92x0 (P : Params) : Obj := ⟨.none, none, (.fields ⟨[]⟩), ⟨[]⟩⟩
noncomputable def o93x0 (P : Params) : Obj := ⟨(.type "code"), none, (.fields ⟨[(.str (sS "NoLetter") 289), (.str (sS "NoLetter") 290), (.str (sS "/claim/cut.py") 291), (.int (14) 0), (.int (0) 0), (.int (0) 0), (.int (0) 0), (.int (0) 0), (.ref 91), (.bool false), (.int (181) 0), (.ref 92), .none, .none, .none, .none, (.int (292) 0), (.int (14) 0), (.str (sS "/claim/cut.py") 293)]⟩), ⟨[]⟩⟩
noncomputable def o94x0 (P : Params) : Obj := ⟨(.type "frame"), none, .plain, ⟨[(some (.ref 93)), (some (.ref 3)), (some (.ref 90)), none, (some (.str (sS "ringpost.errors") 187)), none, (some (.ref 0))]⟩⟩
noncomputable def o95x0 (P : Params) : Obj := ⟨(.type "tuple"), none, (.seq ⟨[]⟩ 0), ⟨[]⟩⟩
noncomputable def o96x0 (P : Params) : Obj := ⟨(.type "dict"), none, (.dict ⟨[en P "__module__" 294 (.str (sS "ringpost.errors") 187), en P "__firstlineno__" 298 (.int (14) 297), en P "__static_attributes__" 299 (.ref 95), en P "__doc__" 300 .none]⟩ 2), ⟨[]⟩⟩
noncomputable def o97x0 (P : Params) : Obj := ⟨(.type "type"), none, (.cls { name := (sS "NoLetter"), bases := [(.ref 24)], mro := [(.ref 97), (.ref 24), (.type "ValueError"), (.type "Exception"), (.type "BaseException"), (.type "object")], ns := 96, qualname := (sS "NoLetter"), hasDict := true, slotNames := [], subclasses := [], abstract := false, collection := none, hasDel := false }), ⟨[(some (.ref 88)), none, (some (.str (sS "NoLetter") 287)), (some (.str (sS "NoLetter") 295)), (some (.builtin "ValueError.__new__")), (some (.bool true))]⟩⟩
noncomputable def o98x0 (P : Params) : Obj := ⟨(.type "super"), none, (.fields ⟨[(.ref 97), (.ref 97), (.ref 97)]⟩), ⟨[]⟩⟩
noncomputable def o99x0 (P : Params) : Obj := ⟨(.type "builtin_function_or_method"), none, (.fields ⟨[(.builtin "object.__init_subclass__"), (.ref 97)]⟩), ⟨[]⟩⟩
noncomputable def t52 (P : Params) : BT := (.node (o15x0 P) (.node (o31x0 P) (.node (o63x0 P) .nil .nil) (.node (o95x0 P) .nil .nil)) (.node (o47x0 P) (.node (o79x0 P) .nil .nil) .nil))
noncomputable def t53 (P : Params) : BT := (.node (boot_o_7 P) (t52 P) (.node (o23x0 P) (.node (o39x0 P) (.node (o71x0 P) .nil .nil) .nil) (.node (o55x0 P) (.node (o87x0 P) .nil .nil) .nil)))
noncomputable def t54 (P : Params) : BT := (.node (o19x0 P) (.node (o35x0 P) (.node (o67x0 P) .nil .nil) (.node (o99x0 P) .nil .nil)) (.node (o51x0 P) (.node (o83x0 P) .nil .nil) .nil))
noncomputable def t55 (P : Params) : BT := (.node (o11x0 P) (t54 P) (.node (o27x0 P) (.node (o43x0 P) (.node (o75x0 P) .nil .nil) .nil) (.node (o59x0 P) (.node (o91x0 P) .nil .nil) .nil)))
noncomputable def t56 (P : Params) : BT := (.node (o17x0 P) (.node (o33x0 P) (.node (o65x0 P) .nil .nil) (.node (o97x0 P) .nil .nil)) (.node (o49x0 P) (.node (o81x0 P) .nil .nil) .nil))
noncomputable def t57 (P : Params) : BT := (.node (boot_o_9 P) (t56 P) (.node (o25x0 P) (.node (o41x0 P) (.node (o73x0 P) .nil .nil) .nil) (.node (o57x0 P) (.node (o89x0 P) .nil .nil) .nil)))
noncomputable def t58 (P : Params) : BT := (.node (o13x0 P) (.node (o21x0 P) (.node (o37x0 P) (.node (o69x0 P) .nil .nil) .nil) (.node (o53x0 P) (.node (o85x0 P) .nil .nil) .nil)) (.node (o29x0 P) (.node (o45x0 P) (.node (o77x0 P) .nil .nil) .nil) (.node (o61x0 P) (.node (o93x0 P) .nil .nil) .nil)))
noncomputable def t59 (P : Params) : BT := (.node (boot_o_1 P) (.node (o3x6 P) (t53 P) (t55 P)) (.node (boot_o_5 P) (t57 P) (t58 P)))
noncomputable def t60 (P : Params) : BT := (.node (o16x0 P) (.node (o32x0 P) (.node (o64x0 P) .nil .nil) (.node (o96x0 P) .nil .nil)) (.node (o48x0 P) (.node (o80x0 P) .nil .nil) .nil))
noncomputable def t61 (P : Params) : BT := (.node (boot_o_8 P) (t60 P) (.node (o24x6 P) (.node (o40x0 P) (.node (o72x0 P) .nil .nil) .nil) (.node (o56x0 P) (.node (o88x0 P) .nil .nil) .nil)))
noncomputable def t62 (P : Params) : BT := (.node (o12x7 P) (.node (o20x0 P) (.node (o36x0 P) (.node (o68x0 P) .nil .nil) .nil) (.node (o52x0 P) (.node (o84x0 P) .nil .nil) .nil)) (.node (o28x0 P) (.node (o44x0 P) (.node (o76x0 P) .nil .nil) .nil) (.node (o60x0 P) (.node (o92x0 P) .nil .nil) .nil)))
noncomputable def t63 (P : Params) : BT := (.node (o18x0 P) (.node (o34x0 P) (.node (o66x0 P) .nil .nil) (.node (o98x0 P) .nil .nil)) (.node (o50x0 P) (.node (o82x0 P) .nil .nil) .nil))
noncomputable def t64 (P : Params) : BT := (.node (boot_o_10 P) (t63 P) (.node (o26x0 P) (.node (o42x0 P) (.node (o74x0 P) .nil .nil) .nil) (.node (o58x0 P) (.node (o90x0 P) .nil .nil) .nil)))
noncomputable def t65 (P : Params) : BT := (.node (o14x0 P) (.node (o22x0 P) (.node (o38x0 P) (.node (o70x0 P) .nil .nil) .nil) (.node (o54x0 P) (.node (o86x0 P) .nil .nil) .nil)) (.node (o30x0 P) (.node (o46x0 P) (.node (o78x0 P) .nil .nil) .nil) (.node (o62x0 P) (.node (o94x0 P) .nil .nil) .nil)))
noncomputable def t66 (P : Params) : BT := (.node (boot_o_2 P) (.node (boot_o_4 P) (t61 P) (t62 P)) (.node (boot_o_6 P) (t64 P) (t65 P)))
noncomputable def S7 (w : World) (os : OsState) : SharedT := (fun P => ⟨(.node (boot_o_0 P) (t59 P) (t66 P)), 100, lf0, ⟨[]⟩, ⟨0, 0, 0, 0⟩, 303, os⟩ : Params → SharedT) w.params
noncomputable def sts6 : List Stmt := ((behindTheImports pw).drop 7).take 1
noncomputable def pc6P (w : World) : Prop := (fun os => segRunT treeTable pw w m0 ann 1 214 (S6 w os) (piecesOf sts6 env cE ⟨12, 0, 13, 8⟩ B)) = fun os => some (Flow.next, S7 w os, cE, ⟨14, 0, 15, 8⟩)
theorem pc6 (w : World) : pc6P w := by
  unfold pc6P
  rw [PySem.W.Fast.te10110043849684766642, PySem.W.Fast.te14364793385576792824]
  kernel_rfl
noncomputable def o3x7 (P : Params) : Obj := ⟨(.type "dict"), none, (.dict ⟨[en P "__name__" 165 (.str (sS "ringpost.errors") 187), en P "__doc__" 166 .none, en P "__package__" 167 .none, en P "__loader__" 168 (.builtin "__main__.__loader__#opaque"), en P "__spec__" 169 .none, en P "__annotations__" 170 (.ref 6), en P "__builtins__" 171 (.ref 4), en P "__file__" 173 (.str (sS "/claim/cut.py") 172), en P "__cached__" 174 .none, en P "PostError" 206 (.ref 24), en P "BadBounds" 222 (.ref 37), en P "BadRing" 238 (.ref 49), en P "BadTexts" 254 (.ref 61), en P "BadStep" 270 (.ref 73), en P "NotNow" 286 (.ref 85), en P "NoLetter" 302 (.ref 97), en P "Safe" 318 (.ref 109)]⟩ 17), ⟨[]⟩⟩
noncomputable def o12x8 (P : Params) : Obj := ⟨.none, none, (.fields ⟨[(.int (2) 0), (.int (0) 0), (.ref 20), (.int (4) 0), (.int (0) 0), (.ref 33), (.int (6) 0), (.int (0) 0), (.ref 45), (.int (8) 0), (.int (0) 0), (.ref 57), (.int (10) 0), (.int (0) 0), (.ref 69), (.int (12) 0), (.int (0) 0), (.ref 81), (.int (14) 0), (.int (0) 0), (.ref 93), (.int (16) 0), (.int (0) 0), (.ref 105)]⟩), ⟨[]⟩⟩
noncomputable def o24x7 (P : Params) : Obj := ⟨(.type "type"), none, (.cls { name := (sS "PostError"), bases := [(.type "ValueError")], mro := [(.ref 24), (.type "ValueError"), (.type "Exception"), (.type "BaseException"), (.type "object")], ns := 23, qualname := (sS "PostError"), hasDict := true, slotNames := [], subclasses := [(.ref 37), (.ref 49), (.ref 61), (.ref 73), (.ref 85), (.ref 97), (.ref 109)], abstract := false, collection := none, hasDel := false }), ⟨[(some (.ref 15)), none, (some (.str (sS "PostError") 189)), (some (.str (sS "PostError") 197)), (some (.builtin "ValueError.__new__")), (some (.bool true))]⟩⟩
noncomputable def o100x0 (P : Params) : Obj := ⟨(.type "tuple"), none, (.seq ⟨[(.ref 24)]⟩ 0), ⟨[]⟩⟩
noncomputable def o101x0 (P : Params) : Obj := ⟨(.type "builtin_function_or_method"), none, (.fields ⟨[(.builtin "type.__prepare__"), (.type "type")]⟩), ⟨[]⟩⟩
noncomputable def o102x0 (P : Params) : Obj := ⟨(.type "dict"), none, (.dict ⟨[en P "__module__" 310 (.str (sS "ringpost.errors") 187), en P "__qualname__" 312 (.str (sS "Safe") 311), en P "__firstlineno__" 314 (.int (16) 313), en P "__static_attributes__" 315 (.ref 107)]⟩ 4), ⟨[]⟩⟩
noncomputable def o103x0 (P : Params) : Obj := ⟨(.type "tuple"), none, (.seq ⟨[]⟩ 0), ⟨[]⟩⟩
noncomputable def o104x0 (P : Params) : Obj := ⟨.none, none, (.fields ⟨[]⟩), ⟨[]⟩⟩
noncomputable def o105x0 (P : Params) : Obj := ⟨(.type "code"), none, (.fields ⟨[(.str (sS "Safe") 305), (.str (sS "Safe") 306), (.str (sS "/claim/cut.py") 307), (.int (16) 0), (.int (0) 0), (.int (0) 0), (.int (0) 0), (.int (0) 0), (.ref 103), (.bool false), (.int (181) 0), (.ref 104), .none, .none, .none, .none, (.int (308) 0), (.int (16) 0), (.str (sS "/claim/cut.py") 309)]⟩), ⟨[]⟩⟩
noncomputable def o106x0 (P : Params) : Obj := ⟨(.type "frame"), none, .plain, ⟨[(some (.ref 105)), (some (.ref 3)), (some (.ref 102)), none, (some (.str (sS "ringpost.errors") 187)), none, (some (.ref 0))]⟩⟩
noncomputable def o107x0 (P : Params) : Obj := ⟨(.type "tuple"), none, (.seq ⟨[]⟩ 0), ⟨[]⟩⟩
noncomputable def o108x0 (P : Params) : Obj := ⟨(.type "dict"), none, (.dict ⟨[en P "__module__" 310 (.str (sS "ringpost.errors") 187), en P "__firstlineno__" 314 (.int (16) 313), en P "__static_attributes__" 315 (.ref 107), en P "__doc__" 316 .none]⟩ 2), ⟨[]⟩⟩
noncomputable def o109x0 (P : Params) : Obj := ⟨(.type "type"), none, (.cls { name := (sS "Safe"), bases := [(.ref 24)], mro := [(.ref 109), (.ref 24), (.type "ValueError"), (.type "Exception"), (.type "BaseException"), (.type "object")], ns := 108, qualname := (sS "Safe"), hasDict := true, slotNames := [], subclasses := [], abstract := false, collection := none, hasDel := false }), ⟨[(some (.ref 100)), none, (some (.str (sS "Safe") 303)), (some (.str (sS "Safe") 311)), (some (.builtin "ValueError.__new__")), (some (.bool true))]⟩⟩
noncomputable def o110x0 (P : Params) : Obj := ⟨(.type "super"), none, (.fields ⟨[(.ref 109), (.ref 109), (.ref 109)]⟩), ⟨[]⟩⟩
noncomputable def o111x0 (P : Params) : Obj := ⟨(.type "builtin_function_or_method"), none, (.fields ⟨[(.builtin "object.__init_subclass__"), (.ref 109)]⟩), ⟨[]⟩⟩
noncomputable def t67 (P : Params) : BT := (.node (o15x0 P) (.node (o31x0 P) (.node (o63x0 P) .nil .nil) (.node (o95x0 P) .nil .nil)) (.node (o47x0 P) (.node (o79x0 P) .nil .nil) (.node (o111x0 P) .nil .nil)))
noncomputable def t68 (P : Params) : BT := (.node (o23x0 P) (.node (o39x0 P) (.node (o71x0 P) .nil .nil) (.node (o103x0 P) .nil .nil)) (.node (o55x0 P) (.node (o87x0 P) .nil .nil) .nil))
noncomputable def t69 (P : Params) : BT := (.node (o27x0 P) (.node (o43x0 P) (.node (o75x0 P) .nil .nil) (.node (o107x0 P) .nil .nil)) (.node (o59x0 P) (.node (o91x0 P) .nil .nil) .nil))
noncomputable def t70 (P : Params) : BT := (.node (o3x7 P) (.node (boot_o_7 P) (t67 P) (t68 P)) (.node (o11x0 P) (t54 P) (t69 P)))
noncomputable def t71 (P : Params) : BT := (.node (o25x0 P) (.node (o41x0 P) (.node (o73x0 P) .nil .nil) (.node (o105x0 P) .nil .nil)) (.node (o57x0 P) (.node (o89x0 P) .nil .nil) .nil))
noncomputable def t72 (P : Params) : BT := (.node (o21x0 P) (.node (o37x0 P) (.node (o69x0 P) .nil .nil) (.node (o101x0 P) .nil .nil)) (.node (o53x0 P) (.node (o85x0 P) .nil .nil) .nil))
noncomputable def t73 (P : Params) : BT := (.node (o29x0 P) (.node (o45x0 P) (.node (o77x0 P) .nil .nil) (.node (o109x0 P) .nil .nil)) (.node (o61x0 P) (.node (o93x0 P) .nil .nil) .nil))
noncomputable def t74 (P : Params) : BT := (.node (boot_o_5 P) (.node (boot_o_9 P) (t56 P) (t71 P)) (.node (o13x0 P) (t72 P) (t73 P)))
noncomputable def t75 (P : Params) : BT := (.node (o24x7 P) (.node (o40x0 P) (.node (o72x0 P) .nil .nil) (.node (o104x0 P) .nil .nil)) (.node (o56x0 P) (.node (o88x0 P) .nil .nil) .nil))
noncomputable def t76 (P : Params) : BT := (.node (o20x0 P) (.node (o36x0 P) (.node (o68x0 P) .nil .nil) (.node (o100x0 P) .nil .nil)) (.node (o52x0 P) (.node (o84x0 P) .nil .nil) .nil))
noncomputable def t77 (P : Params) : BT := (.node (o28x0 P) (.node (o44x0 P) (.node (o76x0 P) .nil .nil) (.node (o108x0 P) .nil .nil)) (.node (o60x0 P) (.node (o92x0 P) .nil .nil) .nil))
noncomputable def t78 (P : Params) : BT := (.node (boot_o_4 P) (.node (boot_o_8 P) (t60 P) (t75 P)) (.node (o12x8 P) (t76 P) (t77 P)))
noncomputable def t79 (P : Params) : BT := (.node (o26x0 P) (.node (o42x0 P) (.node (o74x0 P) .nil .nil) (.node (o106x0 P) .nil .nil)) (.node (o58x0 P) (.node (o90x0 P) .nil .nil) .nil))
noncomputable def t80 (P : Params) : BT := (.node (o22x0 P) (.node (o38x0 P) (.node (o70x0 P) .nil .nil) (.node (o102x0 P) .nil .nil)) (.node (o54x0 P) (.node (o86x0 P) .nil .nil) .nil))
noncomputable def t81 (P : Params) : BT := (.node (o30x0 P) (.node (o46x0 P) (.node (o78x0 P) .nil .nil) (.node (o110x0 P) .nil .nil)) (.node (o62x0 P) (.node (o94x0 P) .nil .nil) .nil))
noncomputable def t82 (P : Params) : BT := (.node (boot_o_6 P) (.node (boot_o_10 P) (t63 P) (t79 P)) (.node (o14x0 P) (t80 P) (t81 P)))
noncomputable def t83 (P : Params) : BT := (.node (boot_o_0 P) (.node (boot_o_1 P) (t70 P) (t74 P)) (.node (boot_o_2 P) (t78 P) (t82 P)))
noncomputable def S8 (w : World) (os : OsState) : SharedT := (fun P => ⟨(t83 P), 112, lf0, ⟨[]⟩, ⟨0, 0, 0, 0⟩, 319, os⟩ : Params → SharedT) w.params
noncomputable def sts7 : List Stmt := ((behindTheImports pw).drop 8).take 1
noncomputable def pc7P (w : World) : Prop := (fun os => segRunT treeTable pw w m0 ann 1 214 (S7 w os) (piecesOf sts7 env cE ⟨14, 0, 15, 8⟩ B)) = fun os => some (Flow.next, S8 w os, cE, ⟨16, 0, 17, 8⟩)
theorem pc7 (w : World) : pc7P w := by
  unfold pc7P
  rw [PySem.W.Fast.te10110043849684766642, PySem.W.Fast.te14364793385576792824]
  kernel_rfl
noncomputable def o3x8 (P : Params) : Obj := ⟨(.type "dict"), none, (.dict ⟨[en P "__name__" 165 (.str (sS "ringpost.posts") 346), en P "__doc__" 166 .none, en P "__package__" 167 .none, en P "__loader__" 168 (.builtin "__main__.__loader__#opaque"), en P "__spec__" 169 .none, en P "__annotations__" 170 (.ref 6), en P "__builtins__" 171 (.ref 4), en P "__file__" 173 (.str (sS "/claim/cut.py") 172), en P "__cached__" 174 .none, en P "PostError" 206 (.ref 24), en P "BadBounds" 222 (.ref 37), en P "BadRing" 238 (.ref 49), en P "BadTexts" 254 (.ref 61), en P "BadStep" 270 (.ref 73), en P "NotNow" 286 (.ref 85), en P "NoLetter" 302 (.ref 97), en P "Safe" 318 (.ref 109), en P "NoLine" 334 (.ref 121), en P "is_among" 345 (.ref 130)]⟩ 19), ⟨[]⟩⟩
noncomputable def o12x9 (P : Params) : Obj := ⟨.none, none, (.fields ⟨[(.int (2) 0), (.int (0) 0), (.ref 20), (.int (4) 0), (.int (0) 0), (.ref 33), (.int (6) 0), (.int (0) 0), (.ref 45), (.int (8) 0), (.int (0) 0), (.ref 57), (.int (10) 0), (.int (0) 0), (.ref 69), (.int (12) 0), (.int (0) 0), (.ref 81), (.int (14) 0), (.int (0) 0), (.ref 93), (.int (16) 0), (.int (0) 0), (.ref 105), (.int (18) 0), (.int (0) 0), (.ref 117), (.int (21) 0), (.int (0) 0), (.ref 129)]⟩), ⟨[]⟩⟩
noncomputable def o24x8 (P : Params) : Obj := ⟨(.type "type"), none, (.cls { name := (sS "PostError"), bases := [(.type "ValueError")], mro := [(.ref 24), (.type "ValueError"), (.type "Exception"), (.type "BaseException"), (.type "object")], ns := 23, qualname := (sS "PostError"), hasDict := true, slotNames := [], subclasses := [(.ref 37), (.ref 49), (.ref 61), (.ref 73), (.ref 85), (.ref 97), (.ref 109), (.ref 121)], abstract := false, collection := none, hasDel := false }), ⟨[(some (.ref 15)), none, (some (.str (sS "PostError") 189)), (some (.str (sS "PostError") 197)), (some (.builtin "ValueError.__new__")), (some (.bool true))]⟩⟩
noncomputable def o112x0 (P : Params) : Obj := ⟨(.type "tuple"), none, (.seq ⟨[(.ref 24)]⟩ 0), ⟨[]⟩⟩
noncomputable def o113x0 (P : Params) : Obj := ⟨(.type "builtin_function_or_method"), none, (.fields ⟨[(.builtin "type.__prepare__"), (.type "type")]⟩), ⟨[]⟩⟩
noncomputable def o114x0 (P : Params) : Obj := ⟨(.type "dict"), none, (.dict ⟨[en P "__module__" 326 (.str (sS "ringpost.errors") 187), en P "__qualname__" 328 (.str (sS "NoLine") 327), en P "__firstlineno__" 330 (.int (18) 329), en P "__static_attributes__" 331 (.ref 119)]⟩ 4), ⟨[]⟩⟩
noncomputable def o115x0 (P : Params) : Obj := ⟨(.type "tuple"), none, (.seq ⟨[]⟩ 0), ⟨[]⟩⟩
noncomputable def o116x0 (P : Params) : Obj := ⟨.none, none, (.fields ⟨[]⟩), ⟨[]⟩⟩
noncomputable def o117x0 (P : Params) : Obj := ⟨(.type "code"), none, (.fields ⟨[(.str (sS "NoLine") 321), (.str (sS "NoLine") 322), (.str (sS "/claim/cut.py") 323), (.int (18) 0), (.int (0) 0), (.int (0) 0), (.int (0) 0), (.int (0) 0), (.ref 115), (.bool false), (.int (181) 0), (.ref 116), .none, .none, .none, .none, (.int (324) 0), (.int (18) 0), (.str (sS "/claim/cut.py") 325)]⟩), ⟨[]⟩⟩
noncomputable def o118x0 (P : Params) : Obj := ⟨(.type "frame"), none, .plain, ⟨[(some (.ref 117)), (some (.ref 3)), (some (.ref 114)), none, (some (.str (sS "ringpost.errors") 187)), none, (some (.ref 0))]⟩⟩
noncomputable def o119x0 (P : Params) : Obj := ⟨(.type "tuple"), none, (.seq ⟨[]⟩ 0), ⟨[]⟩⟩
noncomputable def o120x0 (P : Params) : Obj := ⟨(.type "dict"), none, (.dict ⟨[en P "__module__" 326 (.str (sS "ringpost.errors") 187), en P "__firstlineno__" 330 (.int (18) 329), en P "__static_attributes__" 331 (.ref 119), en P "__doc__" 332 .none]⟩ 2), ⟨[]⟩⟩
noncomputable def o121x0 (P : Params) : Obj := ⟨(.type "type"), none, (.cls { name := (sS "NoLine"), bases := [(.ref 24)], mro := [(.ref 121), (.ref 24), (.type "ValueError"), (.type "Exception"), (.type "BaseException"), (.type "object")], ns := 120, qualname := (sS "NoLine"), hasDict := true, slotNames := [], subclasses := [], abstract := false, collection := none, hasDel := false }), ⟨[(some (.ref 112)), none, (some (.str (sS "NoLine") 319)), (some (.str (sS "NoLine") 327)), (some (.builtin "ValueError.__new__")), (some (.bool true))]⟩⟩
noncomputable def o122x0 (P : Params) : Obj := ⟨(.type "super"), none, (.fields ⟨[(.ref 121), (.ref 121), (.ref 121)]⟩), ⟨[]⟩⟩
noncomputable def o123x0 (P : Params) : Obj := ⟨(.type "builtin_function_or_method"), none, (.fields ⟨[(.builtin "object.__init_subclass__"), (.ref 121)]⟩), ⟨[]⟩⟩
noncomputable def o124x0 (P : Params) : Obj := ⟨(.type "tuple"), none, (.seq ⟨[]⟩ 0), ⟨[]⟩⟩
noncomputable def o125x0 (P : Params) : Obj := ⟨.none, none, (.fields ⟨[]⟩), ⟨[]⟩⟩
noncomputable def o126x0 (P : Params) : Obj := ⟨(.type "tuple"), none, (.seq ⟨[(.str (sS "thing") 340), (.str (sS "low") 341), (.str (sS "high") 342)]⟩ 0), ⟨[]⟩⟩
noncomputable def o127x0 (P : Params) : Obj := ⟨(.type "tuple"), none, (.seq ⟨[]⟩ 0), ⟨[]⟩⟩
noncomputable def o128x0 (P : Params) : Obj := ⟨.none, none, (.func { name := (sS "is_among"), qualname := (sS "is_among"), params := prAt pw.main.body 11, body := .stmts (bdAt pw.main.body 11), scope := scAt pw.main.body 11, globals := 0, closure := [], defaults := .none, kwdefaults := .none, doc := .none, pyModule := .none, annotations := none, code := .none, closureTuple := .none, builtins := 0 }), ⟨[]⟩⟩
noncomputable def o129x0 (P : Params) : Obj := ⟨(.type "code"), none, (.fields ⟨[(.str (sS "is_among") 337), (.str (sS "is_among") 338), (.str (sS "/claim/cut.py") 339), (.int (21) 0), (.int (3) 0), (.int (0) 0), (.int (0) 0), (.int (3) 0), (.ref 124), (.bool true), (.int (181) 0), (.ref 125), .none, (.ref 126), (.ref 127), (.ref 128), (.int (343) 0), (.int (21) 0), (.str (sS "/claim/cut.py") 344)]⟩), ⟨[]⟩⟩
noncomputable def o130x0 (P : Params) : Obj := ⟨(.type "function"), none, (.func { name := (sS "is_among"), qualname := (sS "is_among"), params := prAt pw.main.body 11, body := .stmts (bdAt pw.main.body 11), scope := scAt pw.main.body 11, globals := 3, closure := [], defaults := .none, kwdefaults := .none, doc := .none, pyModule := (.str (sS "ringpost.bounds") 335), annotations := none, code := (.ref 129), closureTuple := .none, builtins := 0 }), ⟨[]⟩⟩
noncomputable def t84 (P : Params) : BT := (.node (o15x0 P) (.node (o31x0 P) (.node (o63x0 P) (.node (o127x0 P) .nil .nil) .nil) (.node (o95x0 P) .nil .nil)) (.node (o47x0 P) (.node (o79x0 P) .nil .nil) (.node (o111x0 P) .nil .nil)))
noncomputable def t85 (P : Params) : BT := (.node (o23x0 P) (.node (o39x0 P) (.node (o71x0 P) .nil .nil) (.node (o103x0 P) .nil .nil)) (.node (o55x0 P) (.node (o87x0 P) .nil .nil) (.node (o119x0 P) .nil .nil)))
noncomputable def t86 (P : Params) : BT := (.node (o19x0 P) (.node (o35x0 P) (.node (o67x0 P) .nil .nil) (.node (o99x0 P) .nil .nil)) (.node (o51x0 P) (.node (o83x0 P) .nil .nil) (.node (o115x0 P) .nil .nil)))
noncomputable def t87 (P : Params) : BT := (.node (o27x0 P) (.node (o43x0 P) (.node (o75x0 P) .nil .nil) (.node (o107x0 P) .nil .nil)) (.node (o59x0 P) (.node (o91x0 P) .nil .nil) (.node (o123x0 P) .nil .nil)))
noncomputable def t88 (P : Params) : BT := (.node (o3x8 P) (.node (boot_o_7 P) (t84 P) (t85 P)) (.node (o11x0 P) (t86 P) (t87 P)))
noncomputable def t89 (P : Params) : BT := (.node (o17x0 P) (.node (o33x0 P) (.node (o65x0 P) (.node (o129x0 P) .nil .nil) .nil) (.node (o97x0 P) .nil .nil)) (.node (o49x0 P) (.node (o81x0 P) .nil .nil) (.node (o113x0 P) .nil .nil)))
noncomputable def t90 (P : Params) : BT := (.node (o25x0 P) (.node (o41x0 P) (.node (o73x0 P) .nil .nil) (.node (o105x0 P) .nil .nil)) (.node (o57x0 P) (.node (o89x0 P) .nil .nil) (.node (o121x0 P) .nil .nil)))
noncomputable def t91 (P : Params) : BT := (.node (o21x0 P) (.node (o37x0 P) (.node (o69x0 P) .nil .nil) (.node (o101x0 P) .nil .nil)) (.node (o53x0 P) (.node (o85x0 P) .nil .nil) (.node (o117x0 P) .nil .nil)))
noncomputable def t92 (P : Params) : BT := (.node (o29x0 P) (.node (o45x0 P) (.node (o77x0 P) .nil .nil) (.node (o109x0 P) .nil .nil)) (.node (o61x0 P) (.node (o93x0 P) .nil .nil) (.node (o125x0 P) .nil .nil)))
noncomputable def t93 (P : Params) : BT := (.node (boot_o_5 P) (.node (boot_o_9 P) (t89 P) (t90 P)) (.node (o13x0 P) (t91 P) (t92 P)))
noncomputable def t94 (P : Params) : BT := (.node (o16x0 P) (.node (o32x0 P) (.node (o64x0 P) (.node (o128x0 P) .nil .nil) .nil) (.node (o96x0 P) .nil .nil)) (.node (o48x0 P) (.node (o80x0 P) .nil .nil) (.node (o112x0 P) .nil .nil)))
noncomputable def t95 (P : Params) : BT := (.node (o24x8 P) (.node (o40x0 P) (.node (o72x0 P) .nil .nil) (.node (o104x0 P) .nil .nil)) (.node (o56x0 P) (.node (o88x0 P) .nil .nil) (.node (o120x0 P) .nil .nil)))
noncomputable def t96 (P : Params) : BT := (.node (o20x0 P) (.node (o36x0 P) (.node (o68x0 P) .nil .nil) (.node (o100x0 P) .nil .nil)) (.node (o52x0 P) (.node (o84x0 P) .nil .nil) (.node (o116x0 P) .nil .nil)))
noncomputable def t97 (P : Params) : BT := (.node (o28x0 P) (.node (o44x0 P) (.node (o76x0 P) .nil .nil) (.node (o108x0 P) .nil .nil)) (.node (o60x0 P) (.node (o92x0 P) .nil .nil) (.node (o124x0 P) .nil .nil)))
noncomputable def t98 (P : Params) : BT := (.node (boot_o_4 P) (.node (boot_o_8 P) (t94 P) (t95 P)) (.node (o12x9 P) (t96 P) (t97 P)))
noncomputable def t99 (P : Params) : BT := (.node (o18x0 P) (.node (o34x0 P) (.node (o66x0 P) (.node (o130x0 P) .nil .nil) .nil) (.node (o98x0 P) .nil .nil)) (.node (o50x0 P) (.node (o82x0 P) .nil .nil) (.node (o114x0 P) .nil .nil)))
noncomputable def t100 (P : Params) : BT := (.node (o26x0 P) (.node (o42x0 P) (.node (o74x0 P) .nil .nil) (.node (o106x0 P) .nil .nil)) (.node (o58x0 P) (.node (o90x0 P) .nil .nil) (.node (o122x0 P) .nil .nil)))
noncomputable def t101 (P : Params) : BT := (.node (o22x0 P) (.node (o38x0 P) (.node (o70x0 P) .nil .nil) (.node (o102x0 P) .nil .nil)) (.node (o54x0 P) (.node (o86x0 P) .nil .nil) (.node (o118x0 P) .nil .nil)))
noncomputable def t102 (P : Params) : BT := (.node (o30x0 P) (.node (o46x0 P) (.node (o78x0 P) .nil .nil) (.node (o110x0 P) .nil .nil)) (.node (o62x0 P) (.node (o94x0 P) .nil .nil) (.node (o126x0 P) .nil .nil)))
noncomputable def t103 (P : Params) : BT := (.node (boot_o_6 P) (.node (boot_o_10 P) (t99 P) (t100 P)) (.node (o14x0 P) (t101 P) (t102 P)))
noncomputable def t104 (P : Params) : BT := (.node (boot_o_0 P) (.node (boot_o_1 P) (t88 P) (t93 P)) (.node (boot_o_2 P) (t98 P) (t103 P)))
noncomputable def S9 (w : World) (os : OsState) : SharedT := (fun P => ⟨(t104 P), 131, lf0, ⟨[]⟩, ⟨0, 0, 0, 0⟩, 348, os⟩ : Params → SharedT) w.params
noncomputable def sts8 : List Stmt := ((behindTheImports pw).drop 9).take 4
noncomputable def pc8P (w : World) : Prop := (fun os => segRunT treeTable pw w m0 ann 1 263 (S8 w os) (piecesOf sts8 env cE ⟨16, 0, 17, 8⟩ B)) = fun os => some (Flow.next, S9 w os, cE, ⟨23, 0, 23, 8⟩)
theorem pc8 (w : World) : pc8P w := by
  unfold pc8P
  rw [PySem.W.Fast.te10110043849684766642, PySem.W.Fast.te14364793385576792824]
  kernel_rfl
noncomputable def o3x9 (P : Params) : Obj := ⟨(.type "dict"), none, (.dict ⟨[en P "__name__" 165 (.str (sS "law_uf020020_04") 408), en P "__doc__" 166 .none, en P "__package__" 167 .none, en P "__loader__" 168 (.builtin "__main__.__loader__#opaque"), en P "__spec__" 169 .none, en P "__annotations__" 170 (.ref 6), en P "__builtins__" 171 (.ref 4), en P "__file__" 173 (.str (sS "/claim/cut.py") 172), en P "__cached__" 174 .none, en P "PostError" 206 (.ref 24), en P "BadBounds" 222 (.ref 37), en P "BadRing" 238 (.ref 49), en P "BadTexts" 254 (.ref 61), en P "BadStep" 270 (.ref 73), en P "NotNow" 286 (.ref 85), en P "NoLetter" 302 (.ref 97), en P "Safe" 318 (.ref 109), en P "NoLine" 334 (.ref 121), en P "is_among" 345 (.ref 130), en P "Post" 407 (.ref 175), en P "_law_at" 417 (.ref 186)]⟩ 21), ⟨[]⟩⟩
noncomputable def o12x10 (P : Params) : Obj := ⟨.none, none, (.fields ⟨[(.int (2) 0), (.int (0) 0), (.ref 20), (.int (4) 0), (.int (0) 0), (.ref 33), (.int (6) 0), (.int (0) 0), (.ref 45), (.int (8) 0), (.int (0) 0), (.ref 57), (.int (10) 0), (.int (0) 0), (.ref 69), (.int (12) 0), (.int (0) 0), (.ref 81), (.int (14) 0), (.int (0) 0), (.ref 93), (.int (16) 0), (.int (0) 0), (.ref 105), (.int (18) 0), (.int (0) 0), (.ref 117), (.int (21) 0), (.int (0) 0), (.ref 129), (.int (24) 0), (.int (0) 0), (.ref 136), (.int (45) 0), (.int (0) 0), (.ref 185)]⟩), ⟨[]⟩⟩
noncomputable def o131x0 (P : Params) : Obj := ⟨(.type "tuple"), none, (.seq ⟨[]⟩ 0), ⟨[]⟩⟩
noncomputable def o132x0 (P : Params) : Obj := ⟨(.type "builtin_function_or_method"), none, (.fields ⟨[(.builtin "type.__prepare__"), (.type "type")]⟩), ⟨[]⟩⟩
noncomputable def o133x0 (P : Params) : Obj := ⟨(.type "dict"), none, (.dict ⟨[en P "__module__" 355 (.str (sS "ringpost.posts") 346), en P "__qualname__" 357 (.str (sS "Post") 356), en P "__firstlineno__" 359 (.int (24) 358), en P "__init__" 367 (.ref 144), en P "first" 374 (.ref 151), en P "posted" 382 (.ref 158), en P "there" 389 (.ref 165), en P "taken" 397 (.ref 172), en P "__static_attributes__" 400 (.ref 173)]⟩ 9), ⟨[]⟩⟩
noncomputable def o134x0 (P : Params) : Obj := ⟨(.type "tuple"), none, (.seq ⟨[]⟩ 0), ⟨[]⟩⟩
noncomputable def o135x0 (P : Params) : Obj := ⟨.none, none, (.fields ⟨[(.int (26) 0), (.int (4) 0), (.ref 143), (.int (30) 0), (.int (4) 0), (.ref 150), (.int (33) 0), (.int (4) 0), (.ref 157), (.int (37) 0), (.int (4) 0), (.ref 164), (.int (40) 0), (.int (4) 0), (.ref 171)]⟩), ⟨[]⟩⟩
noncomputable def o136x0 (P : Params) : Obj := ⟨(.type "code"), none, (.fields ⟨[(.str (sS "Post") 350), (.str (sS "Post") 351), (.str (sS "/claim/cut.py") 352), (.int (24) 0), (.int (0) 0), (.int (0) 0), (.int (0) 0), (.int (0) 0), (.ref 134), (.bool false), (.int (181) 0), (.ref 135), .none, .none, .none, .none, (.int (353) 0), (.int (24) 0), (.str (sS "/claim/cut.py") 354)]⟩), ⟨[]⟩⟩
noncomputable def o137x0 (P : Params) : Obj := ⟨(.type "frame"), none, .plain, ⟨[(some (.ref 136)), (some (.ref 3)), (some (.ref 133)), none, (some (.str (sS "ringpost.posts") 346)), none, (some (.ref 0))]⟩⟩
noncomputable def o138x0 (P : Params) : Obj := ⟨(.type "tuple"), none, (.seq ⟨[]⟩ 0), ⟨[]⟩⟩
noncomputable def o139x0 (P : Params) : Obj := ⟨.none, none, (.fields ⟨[]⟩), ⟨[]⟩⟩
noncomputable def o140x0 (P : Params) : Obj := ⟨(.type "tuple"), none, (.seq ⟨[(.str (sS "self") 363), (.str (sS "bound") 364)]⟩ 0), ⟨[]⟩⟩
noncomputable def o141x0 (P : Params) : Obj := ⟨(.type "tuple"), none, (.seq ⟨[]⟩ 0), ⟨[]⟩⟩
noncomputable def o142x0 (P : Params) : Obj := ⟨.none, none, (.func { name := (sS "__init__"), qualname := (sS "Post.__init__"), params := prAt (clAt pw.main.body 13) 0, body := .stmts (bdAt (clAt pw.main.body 13) 0), scope := scAt (clAt pw.main.body 13) 0, globals := 0, closure := [], defaults := .none, kwdefaults := .none, doc := .none, pyModule := .none, annotations := none, code := .none, closureTuple := .none, builtins := 0 }), ⟨[]⟩⟩
noncomputable def o143x0 (P : Params) : Obj := ⟨(.type "code"), none, (.fields ⟨[(.str (sS "__init__") 360), (.str (sS "Post.__init__") 361), (.str (sS "/claim/cut.py") 362), (.int (26) 0), (.int (2) 0), (.int (0) 0), (.int (0) 0), (.int (3) 0), (.ref 138), (.bool true), (.int (181) 0), (.ref 139), .none, (.ref 140), (.ref 141), (.ref 142), (.int (365) 0), (.int (26) 0), (.str (sS "/claim/cut.py") 366)]⟩), ⟨[]⟩⟩
noncomputable def o144x0 (P : Params) : Obj := ⟨(.type "function"), none, (.func { name := (sS "__init__"), qualname := (sS "Post.__init__"), params := prAt (clAt pw.main.body 13) 0, body := .stmts (bdAt (clAt pw.main.body 13) 0), scope := scAt (clAt pw.main.body 13) 0, globals := 3, closure := [], defaults := .none, kwdefaults := .none, doc := .none, pyModule := (.str (sS "ringpost.posts") 346), annotations := none, code := (.ref 143), closureTuple := .none, builtins := 0 }), ⟨[]⟩⟩
noncomputable def o145x0 (P : Params) : Obj := ⟨(.type "tuple"), none, (.seq ⟨[]⟩ 0), ⟨[]⟩⟩
noncomputable def o146x0 (P : Params) : Obj := ⟨.none, none, (.fields ⟨[]⟩), ⟨[]⟩⟩
noncomputable def o147x0 (P : Params) : Obj := ⟨(.type "tuple"), none, (.seq ⟨[(.str (sS "self") 371)]⟩ 0), ⟨[]⟩⟩
noncomputable def o148x0 (P : Params) : Obj := ⟨(.type "tuple"), none, (.seq ⟨[]⟩ 0), ⟨[]⟩⟩
noncomputable def o149x0 (P : Params) : Obj := ⟨.none, none, (.func { name := (sS "first"), qualname := (sS "Post.first"), params := prAt (clAt pw.main.body 13) 1, body := .stmts (bdAt (clAt pw.main.body 13) 1), scope := scAt (clAt pw.main.body 13) 1, globals := 0, closure := [], defaults := .none, kwdefaults := .none, doc := .none, pyModule := .none, annotations := none, code := .none, closureTuple := .none, builtins := 0 }), ⟨[]⟩⟩
noncomputable def o150x0 (P : Params) : Obj := ⟨(.type "code"), none, (.fields ⟨[(.str (sS "first") 368), (.str (sS "Post.first") 369), (.str (sS "/claim/cut.py") 370), (.int (30) 0), (.int (1) 0), (.int (0) 0), (.int (0) 0), (.int (3) 0), (.ref 145), (.bool true), (.int (181) 0), (.ref 146), .none, (.ref 147), (.ref 148), (.ref 149), (.int (372) 0), (.int (30) 0), (.str (sS "/claim/cut.py") 373)]⟩), ⟨[]⟩⟩
noncomputable def o151x0 (P : Params) : Obj := ⟨(.type "function"), none, (.func { name := (sS "first"), qualname := (sS "Post.first"), params := prAt (clAt pw.main.body 13) 1, body := .stmts (bdAt (clAt pw.main.body 13) 1), scope := scAt (clAt pw.main.body 13) 1, globals := 3, closure := [], defaults := .none, kwdefaults := .none, doc := .none, pyModule := (.str (sS "ringpost.posts") 346), annotations := none, code := (.ref 150), closureTuple := .none, builtins := 0 }), ⟨[]⟩⟩
noncomputable def o152x0 (P : Params) : Obj := ⟨(.type "tuple"), none, (.seq ⟨[]⟩ 0), ⟨[]⟩⟩
noncomputable def o153x0 (P : Params) : Obj := ⟨.none, none, (.fields ⟨[]⟩), ⟨[]⟩⟩
noncomputable def o154x0 (P : Params) : Obj := ⟨(.type "tuple"), none, (.seq ⟨[(.str (sS "self") 378), (.str (sS "thing") 379)]⟩ 0), ⟨[]⟩⟩
noncomputable def o155x0 (P : Params) : Obj := ⟨(.type "tuple"), none, (.seq ⟨[]⟩ 0), ⟨[]⟩⟩
noncomputable def o156x0 (P : Params) : Obj := ⟨.none, none, (.func { name := (sS "posted"), qualname := (sS "Post.posted"), params := prAt (clAt pw.main.body 13) 2, body := .stmts (bdAt (clAt pw.main.body 13) 2), scope := scAt (clAt pw.main.body 13) 2, globals := 0, closure := [], defaults := .none, kwdefaults := .none, doc := .none, pyModule := .none, annotations := none, code := .none, closureTuple := .none, builtins := 0 }), ⟨[]⟩⟩
noncomputable def o157x0 (P : Params) : Obj := ⟨(.type "code"), none, (.fields ⟨[(.str (sS "posted") 375), (.str (sS "Post.posted") 376), (.str (sS "/claim/cut.py") 377), (.int (33) 0), (.int (2) 0), (.int (0) 0), (.int (0) 0), (.int (3) 0), (.ref 152), (.bool true), (.int (181) 0), (.ref 153), .none, (.ref 154), (.ref 155), (.ref 156), (.int (380) 0), (.int (33) 0), (.str (sS "/claim/cut.py") 381)]⟩), ⟨[]⟩⟩
noncomputable def o158x0 (P : Params) : Obj := ⟨(.type "function"), none, (.func { name := (sS "posted"), qualname := (sS "Post.posted"), params := prAt (clAt pw.main.body 13) 2, body := .stmts (bdAt (clAt pw.main.body 13) 2), scope := scAt (clAt pw.main.body 13) 2, globals := 3, closure := [], defaults := .none, kwdefaults := .none, doc := .none, pyModule := (.str (sS "ringpost.posts") 346), annotations := none, code := (.ref 157), closureTuple := .none, builtins := 0 }), ⟨[]⟩⟩
noncomputable def o159x0 (P : Params) : Obj := ⟨(.type "tuple"), none, (.seq ⟨[]⟩ 0), ⟨[]⟩⟩
noncomputable def o160x0 (P : Params) : Obj := ⟨.none, none, (.fields ⟨[]⟩), ⟨[]⟩⟩
noncomputable def o161x0 (P : Params) : Obj := ⟨(.type "tuple"), none, (.seq ⟨[(.str (sS "self") 386)]⟩ 0), ⟨[]⟩⟩
noncomputable def o162x0 (P : Params) : Obj := ⟨(.type "tuple"), none, (.seq ⟨[]⟩ 0), ⟨[]⟩⟩
noncomputable def o163x0 (P : Params) : Obj := ⟨.none, none, (.func { name := (sS "there"), qualname := (sS "Post.there"), params := prAt (clAt pw.main.body 13) 3, body := .stmts (bdAt (clAt pw.main.body 13) 3), scope := scAt (clAt pw.main.body 13) 3, globals := 0, closure := [], defaults := .none, kwdefaults := .none, doc := .none, pyModule := .none, annotations := none, code := .none, closureTuple := .none, builtins := 0 }), ⟨[]⟩⟩
noncomputable def o164x0 (P : Params) : Obj := ⟨(.type "code"), none, (.fields ⟨[(.str (sS "there") 383), (.str (sS "Post.there") 384), (.str (sS "/claim/cut.py") 385), (.int (37) 0), (.int (1) 0), (.int (0) 0), (.int (0) 0), (.int (3) 0), (.ref 159), (.bool true), (.int (181) 0), (.ref 160), .none, (.ref 161), (.ref 162), (.ref 163), (.int (387) 0), (.int (37) 0), (.str (sS "/claim/cut.py") 388)]⟩), ⟨[]⟩⟩
noncomputable def o165x0 (P : Params) : Obj := ⟨(.type "function"), none, (.func { name := (sS "there"), qualname := (sS "Post.there"), params := prAt (clAt pw.main.body 13) 3, body := .stmts (bdAt (clAt pw.main.body 13) 3), scope := scAt (clAt pw.main.body 13) 3, globals := 3, closure := [], defaults := .none, kwdefaults := .none, doc := .none, pyModule := (.str (sS "ringpost.posts") 346), annotations := none, code := (.ref 164), closureTuple := .none, builtins := 0 }), ⟨[]⟩⟩
noncomputable def o166x0 (P : Params) : Obj := ⟨(.type "tuple"), none, (.seq ⟨[]⟩ 0), ⟨[]⟩⟩
noncomputable def o167x0 (P : Params) : Obj := ⟨.none, none, (.fields ⟨[]⟩), ⟨[]⟩⟩
noncomputable def o168x0 (P : Params) : Obj := ⟨(.type "tuple"), none, (.seq ⟨[(.str (sS "self") 393), (.str (sS "number") 394)]⟩ 0), ⟨[]⟩⟩
noncomputable def o169x0 (P : Params) : Obj := ⟨(.type "tuple"), none, (.seq ⟨[]⟩ 0), ⟨[]⟩⟩
noncomputable def o170x0 (P : Params) : Obj := ⟨.none, none, (.func { name := (sS "taken"), qualname := (sS "Post.taken"), params := prAt (clAt pw.main.body 13) 4, body := .stmts (bdAt (clAt pw.main.body 13) 4), scope := scAt (clAt pw.main.body 13) 4, globals := 0, closure := [], defaults := .none, kwdefaults := .none, doc := .none, pyModule := .none, annotations := none, code := .none, closureTuple := .none, builtins := 0 }), ⟨[]⟩⟩
noncomputable def o171x0 (P : Params) : Obj := ⟨(.type "code"), none, (.fields ⟨[(.str (sS "taken") 390), (.str (sS "Post.taken") 391), (.str (sS "/claim/cut.py") 392), (.int (40) 0), (.int (2) 0), (.int (0) 0), (.int (0) 0), (.int (3) 0), (.ref 166), (.bool true), (.int (181) 0), (.ref 167), .none, (.ref 168), (.ref 169), (.ref 170), (.int (395) 0), (.int (40) 0), (.str (sS "/claim/cut.py") 396)]⟩), ⟨[]⟩⟩
noncomputable def o172x0 (P : Params) : Obj := ⟨(.type "function"), none, (.func { name := (sS "taken"), qualname := (sS "Post.taken"), params := prAt (clAt pw.main.body 13) 4, body := .stmts (bdAt (clAt pw.main.body 13) 4), scope := scAt (clAt pw.main.body 13) 4, globals := 3, closure := [], defaults := .none, kwdefaults := .none, doc := .none, pyModule := (.str (sS "ringpost.posts") 346), annotations := none, code := (.ref 171), closureTuple := .none, builtins := 0 }), ⟨[]⟩⟩
noncomputable def o173x0 (P : Params) : Obj := ⟨(.type "tuple"), none, (.seq ⟨[(.str (sS "bound") 398), (.str (sS "things") 399)]⟩ 0), ⟨[]⟩⟩
noncomputable def o174x0 (P : Params) : Obj := ⟨(.type "dict"), none, (.dict ⟨[en P "__module__" 355 (.str (sS "ringpost.posts") 346), en P "__firstlineno__" 359 (.int (24) 358), en P "__init__" 367 (.ref 144), en P "first" 374 (.ref 151), en P "posted" 382 (.ref 158), en P "there" 389 (.ref 165), en P "taken" 397 (.ref 172), en P "__static_attributes__" 400 (.ref 173), en P "__dict__" 402 (.ref 176), en P "__weakref__" 404 (.ref 177), en P "__doc__" 405 .none]⟩ 4), ⟨[]⟩⟩
noncomputable def o175x0 (P : Params) : Obj := ⟨(.type "type"), none, (.cls { name := (sS "Post"), bases := [(.type "object")], mro := [(.ref 175), (.type "object")], ns := 174, qualname := (sS "Post"), hasDict := true, slotNames := [], subclasses := [], abstract := false, collection := none, hasDel := false }), ⟨[none, none, (some (.str (sS "Post") 348)), (some (.str (sS "Post") 356)), (some (.builtin "object.__new__")), (some (.bool true))]⟩⟩
noncomputable def o176x0 (P : Params) : Obj := ⟨(.type "getset_descriptor"), none, (.fields ⟨[(.str (sS "__dict__") 401), (.ref 175), (.builtin "function.__dict__"), (.builtin "function.__dict__#set")]⟩), ⟨[]⟩⟩
noncomputable def o177x0 (P : Params) : Obj := ⟨(.type "getset_descriptor"), none, (.fields ⟨[(.str (sS "__weakref__") 403), (.ref 175), (.builtin "ExceptionGroup.__weakref__"), .none]⟩), ⟨[]⟩⟩
noncomputable def o178x0 (P : Params) : Obj := ⟨(.type "super"), none, (.fields ⟨[(.ref 175), (.ref 175), (.ref 175)]⟩), ⟨[]⟩⟩
noncomputable def o179x0 (P : Params) : Obj := ⟨(.type "builtin_function_or_method"), none, (.fields ⟨[(.builtin "object.__init_subclass__"), (.ref 175)]⟩), ⟨[]⟩⟩
noncomputable def o180x0 (P : Params) : Obj := ⟨(.type "tuple"), none, (.seq ⟨[]⟩ 0), ⟨[]⟩⟩
noncomputable def o181x0 (P : Params) : Obj := ⟨.none, none, (.fields ⟨[]⟩), ⟨[]⟩⟩
noncomputable def o182x0 (P : Params) : Obj := ⟨(.type "tuple"), none, (.seq ⟨[(.str (sS "_law_script") 413), (.str (sS "_law_k") 414)]⟩ 0), ⟨[]⟩⟩
noncomputable def o183x0 (P : Params) : Obj := ⟨(.type "tuple"), none, (.seq ⟨[]⟩ 0), ⟨[]⟩⟩
noncomputable def o184x0 (P : Params) : Obj := ⟨.none, none, (.func { name := (sS "_law_at"), qualname := (sS "_law_at"), params := prAt pw.main.body 15, body := .stmts (bdAt pw.main.body 15), scope := scAt pw.main.body 15, globals := 0, closure := [], defaults := .none, kwdefaults := .none, doc := .none, pyModule := .none, annotations := none, code := .none, closureTuple := .none, builtins := 0 }), ⟨[]⟩⟩
noncomputable def o185x0 (P : Params) : Obj := ⟨(.type "code"), none, (.fields ⟨[(.str (sS "_law_at") 410), (.str (sS "_law_at") 411), (.str (sS "/claim/cut.py") 412), (.int (45) 0), (.int (2) 0), (.int (0) 0), (.int (0) 0), (.int (3) 0), (.ref 180), (.bool true), (.int (181) 0), (.ref 181), .none, (.ref 182), (.ref 183), (.ref 184), (.int (415) 0), (.int (45) 0), (.str (sS "/claim/cut.py") 416)]⟩), ⟨[]⟩⟩
noncomputable def o186x0 (P : Params) : Obj := ⟨(.type "function"), none, (.func { name := (sS "_law_at"), qualname := (sS "_law_at"), params := prAt pw.main.body 15, body := .stmts (bdAt pw.main.body 15), scope := scAt pw.main.body 15, globals := 3, closure := [], defaults := .none, kwdefaults := .none, doc := .none, pyModule := (.str (sS "law_uf020020_04") 408), annotations := none, code := (.ref 185), closureTuple := .none, builtins := 0 }), ⟨[]⟩⟩
noncomputable def t105 (P : Params) : BT := (.node (o15x0 P) (.node (o31x0 P) (.node (o63x0 P) (.node (o127x0 P) .nil .nil) .nil) (.node (o95x0 P) (.node (o159x0 P) .nil .nil) .nil)) (.node (o47x0 P) (.node (o79x0 P) (.node (o143x0 P) .nil .nil) .nil) (.node (o111x0 P) (.node (o175x0 P) .nil .nil) .nil)))
noncomputable def t106 (P : Params) : BT := (.node (o23x0 P) (.node (o39x0 P) (.node (o71x0 P) (.node (o135x0 P) .nil .nil) .nil) (.node (o103x0 P) (.node (o167x0 P) .nil .nil) .nil)) (.node (o55x0 P) (.node (o87x0 P) (.node (o151x0 P) .nil .nil) .nil) (.node (o119x0 P) (.node (o183x0 P) .nil .nil) .nil)))
noncomputable def t107 (P : Params) : BT := (.node (o19x0 P) (.node (o35x0 P) (.node (o67x0 P) (.node (o131x0 P) .nil .nil) .nil) (.node (o99x0 P) (.node (o163x0 P) .nil .nil) .nil)) (.node (o51x0 P) (.node (o83x0 P) (.node (o147x0 P) .nil .nil) .nil) (.node (o115x0 P) (.node (o179x0 P) .nil .nil) .nil)))
noncomputable def t108 (P : Params) : BT := (.node (o27x0 P) (.node (o43x0 P) (.node (o75x0 P) (.node (o139x0 P) .nil .nil) .nil) (.node (o107x0 P) (.node (o171x0 P) .nil .nil) .nil)) (.node (o59x0 P) (.node (o91x0 P) (.node (o155x0 P) .nil .nil) .nil) (.node (o123x0 P) .nil .nil)))
noncomputable def t109 (P : Params) : BT := (.node (o3x9 P) (.node (boot_o_7 P) (t105 P) (t106 P)) (.node (o11x0 P) (t107 P) (t108 P)))
noncomputable def t110 (P : Params) : BT := (.node (o17x0 P) (.node (o33x0 P) (.node (o65x0 P) (.node (o129x0 P) .nil .nil) .nil) (.node (o97x0 P) (.node (o161x0 P) .nil .nil) .nil)) (.node (o49x0 P) (.node (o81x0 P) (.node (o145x0 P) .nil .nil) .nil) (.node (o113x0 P) (.node (o177x0 P) .nil .nil) .nil)))
noncomputable def t111 (P : Params) : BT := (.node (o25x0 P) (.node (o41x0 P) (.node (o73x0 P) (.node (o137x0 P) .nil .nil) .nil) (.node (o105x0 P) (.node (o169x0 P) .nil .nil) .nil)) (.node (o57x0 P) (.node (o89x0 P) (.node (o153x0 P) .nil .nil) .nil) (.node (o121x0 P) (.node (o185x0 P) .nil .nil) .nil)))
noncomputable def t112 (P : Params) : BT := (.node (o21x0 P) (.node (o37x0 P) (.node (o69x0 P) (.node (o133x0 P) .nil .nil) .nil) (.node (o101x0 P) (.node (o165x0 P) .nil .nil) .nil)) (.node (o53x0 P) (.node (o85x0 P) (.node (o149x0 P) .nil .nil) .nil) (.node (o117x0 P) (.node (o181x0 P) .nil .nil) .nil)))
noncomputable def t113 (P : Params) : BT := (.node (o29x0 P) (.node (o45x0 P) (.node (o77x0 P) (.node (o141x0 P) .nil .nil) .nil) (.node (o109x0 P) (.node (o173x0 P) .nil .nil) .nil)) (.node (o61x0 P) (.node (o93x0 P) (.node (o157x0 P) .nil .nil) .nil) (.node (o125x0 P) .nil .nil)))
noncomputable def t114 (P : Params) : BT := (.node (boot_o_5 P) (.node (boot_o_9 P) (t110 P) (t111 P)) (.node (o13x0 P) (t112 P) (t113 P)))
noncomputable def t115 (P : Params) : BT := (.node (o16x0 P) (.node (o32x0 P) (.node (o64x0 P) (.node (o128x0 P) .nil .nil) .nil) (.node (o96x0 P) (.node (o160x0 P) .nil .nil) .nil)) (.node (o48x0 P) (.node (o80x0 P) (.node (o144x0 P) .nil .nil) .nil) (.node (o112x0 P) (.node (o176x0 P) .nil .nil) .nil)))
noncomputable def t116 (P : Params) : BT := (.node (o24x8 P) (.node (o40x0 P) (.node (o72x0 P) (.node (o136x0 P) .nil .nil) .nil) (.node (o104x0 P) (.node (o168x0 P) .nil .nil) .nil)) (.node (o56x0 P) (.node (o88x0 P) (.node (o152x0 P) .nil .nil) .nil) (.node (o120x0 P) (.node (o184x0 P) .nil .nil) .nil)))
noncomputable def t117 (P : Params) : BT := (.node (o20x0 P) (.node (o36x0 P) (.node (o68x0 P) (.node (o132x0 P) .nil .nil) .nil) (.node (o100x0 P) (.node (o164x0 P) .nil .nil) .nil)) (.node (o52x0 P) (.node (o84x0 P) (.node (o148x0 P) .nil .nil) .nil) (.node (o116x0 P) (.node (o180x0 P) .nil .nil) .nil)))
noncomputable def t118 (P : Params) : BT := (.node (o28x0 P) (.node (o44x0 P) (.node (o76x0 P) (.node (o140x0 P) .nil .nil) .nil) (.node (o108x0 P) (.node (o172x0 P) .nil .nil) .nil)) (.node (o60x0 P) (.node (o92x0 P) (.node (o156x0 P) .nil .nil) .nil) (.node (o124x0 P) .nil .nil)))
noncomputable def t119 (P : Params) : BT := (.node (boot_o_4 P) (.node (boot_o_8 P) (t115 P) (t116 P)) (.node (o12x10 P) (t117 P) (t118 P)))
noncomputable def t120 (P : Params) : BT := (.node (o18x0 P) (.node (o34x0 P) (.node (o66x0 P) (.node (o130x0 P) .nil .nil) .nil) (.node (o98x0 P) (.node (o162x0 P) .nil .nil) .nil)) (.node (o50x0 P) (.node (o82x0 P) (.node (o146x0 P) .nil .nil) .nil) (.node (o114x0 P) (.node (o178x0 P) .nil .nil) .nil)))
noncomputable def t121 (P : Params) : BT := (.node (o26x0 P) (.node (o42x0 P) (.node (o74x0 P) (.node (o138x0 P) .nil .nil) .nil) (.node (o106x0 P) (.node (o170x0 P) .nil .nil) .nil)) (.node (o58x0 P) (.node (o90x0 P) (.node (o154x0 P) .nil .nil) .nil) (.node (o122x0 P) (.node (o186x0 P) .nil .nil) .nil)))
noncomputable def t122 (P : Params) : BT := (.node (o22x0 P) (.node (o38x0 P) (.node (o70x0 P) (.node (o134x0 P) .nil .nil) .nil) (.node (o102x0 P) (.node (o166x0 P) .nil .nil) .nil)) (.node (o54x0 P) (.node (o86x0 P) (.node (o150x0 P) .nil .nil) .nil) (.node (o118x0 P) (.node (o182x0 P) .nil .nil) .nil)))
noncomputable def t123 (P : Params) : BT := (.node (o30x0 P) (.node (o46x0 P) (.node (o78x0 P) (.node (o142x0 P) .nil .nil) .nil) (.node (o110x0 P) (.node (o174x0 P) .nil .nil) .nil)) (.node (o62x0 P) (.node (o94x0 P) (.node (o158x0 P) .nil .nil) .nil) (.node (o126x0 P) .nil .nil)))
noncomputable def t124 (P : Params) : BT := (.node (boot_o_6 P) (.node (boot_o_10 P) (t120 P) (t121 P)) (.node (o14x0 P) (t122 P) (t123 P)))
noncomputable def t125 (P : Params) : BT := (.node (boot_o_0 P) (.node (boot_o_1 P) (t109 P) (t114 P)) (.node (boot_o_2 P) (t119 P) (t124 P)))
noncomputable def S10 (w : World) (os : OsState) : SharedT := (fun P => ⟨(t125 P), 187, lf0, ⟨[]⟩, ⟨0, 0, 0, 0⟩, 418, os⟩ : Params → SharedT) w.params
noncomputable def sts9 : List Stmt := ((behindTheImports pw).drop 13).take 3
noncomputable def pc9P (w : World) : Prop := (fun os => segRunT treeTable pw w m0 ann 1 389 (S9 w os) (piecesOf sts9 env cE ⟨23, 0, 23, 8⟩ B)) = fun os => some (Flow.next, S10 w os, cE, ⟨45, 0, 48, 12⟩)
theorem pc9 (w : World) : pc9P w := by
  unfold pc9P
  rw [PySem.W.Fast.te10110043849684766642, PySem.W.Fast.te14364793385576792824]
  kernel_rfl
noncomputable def o3x10 (P : Params) : Obj := ⟨(.type "dict"), none, (.dict ⟨[en P "__name__" 165 (.str (sS "law_uf020020_04") 408), en P "__doc__" 166 .none, en P "__package__" 167 .none, en P "__loader__" 168 (.builtin "__main__.__loader__#opaque"), en P "__spec__" 169 .none, en P "__annotations__" 170 (.ref 6), en P "__builtins__" 171 (.ref 4), en P "__file__" 173 (.str (sS "/claim/cut.py") 172), en P "__cached__" 174 .none, en P "PostError" 206 (.ref 24), en P "BadBounds" 222 (.ref 37), en P "BadRing" 238 (.ref 49), en P "BadTexts" 254 (.ref 61), en P "BadStep" 270 (.ref 73), en P "NotNow" 286 (.ref 85), en P "NoLetter" 302 (.ref 97), en P "Safe" 318 (.ref 109), en P "NoLine" 334 (.ref 121), en P "is_among" 345 (.ref 130), en P "Post" 407 (.ref 175), en P "_law_at" 417 (.ref 186), en P "_law_mixed" 425 (.ref 193), en P "_law_whole" 432 (.ref 200), en P "_law_word" 441 (.ref 207), en P "_law_said" 450 (.ref 214), en P "_law_thing" 457 (.ref 221), en P "_law_due" 463 (.ref 226), en P "_law_there" 469 (.ref 231), en P "_law_stands" 481 (.ref 238), en P "law" 487 (.ref 243)]⟩ 30), ⟨[]⟩⟩
noncomputable def o12x11 (P : Params) : Obj := ⟨.none, none, (.fields ⟨[(.int (2) 0), (.int (0) 0), (.ref 20), (.int (4) 0), (.int (0) 0), (.ref 33), (.int (6) 0), (.int (0) 0), (.ref 45), (.int (8) 0), (.int (0) 0), (.ref 57), (.int (10) 0), (.int (0) 0), (.ref 69), (.int (12) 0), (.int (0) 0), (.ref 81), (.int (14) 0), (.int (0) 0), (.ref 93), (.int (16) 0), (.int (0) 0), (.ref 105), (.int (18) 0), (.int (0) 0), (.ref 117), (.int (21) 0), (.int (0) 0), (.ref 129), (.int (24) 0), (.int (0) 0), (.ref 136), (.int (45) 0), (.int (0) 0), (.ref 185), (.int (49) 0), (.int (0) 0), (.ref 192), (.int (51) 0), (.int (0) 0), (.ref 199), (.int (53) 0), (.int (0) 0), (.ref 206), (.int (60) 0), (.int (0) 0), (.ref 213), (.int (65) 0), (.int (0) 0), (.ref 220), (.int (67) 0), (.int (0) 0), (.ref 225), (.int (69) 0), (.int (0) 0), (.ref 230), (.int (78) 0), (.int (0) 0), (.ref 237), (.int (89) 0), (.int (0) 0), (.ref 242)]⟩), ⟨[]⟩⟩
noncomputable def o187x0 (P : Params) : Obj := ⟨(.type "tuple"), none, (.seq ⟨[]⟩ 0), ⟨[]⟩⟩
noncomputable def o188x0 (P : Params) : Obj := ⟨.none, none, (.fields ⟨[]⟩), ⟨[]⟩⟩
noncomputable def o189x0 (P : Params) : Obj := ⟨(.type "tuple"), none, (.seq ⟨[(.str (sS "_law_cell") 421), (.str (sS "_law_k") 422)]⟩ 0), ⟨[]⟩⟩
noncomputable def o190x0 (P : Params) : Obj := ⟨(.type "tuple"), none, (.seq ⟨[]⟩ 0), ⟨[]⟩⟩
noncomputable def o191x0 (P : Params) : Obj := ⟨.none, none, (.func { name := (sS "_law_mixed"), qualname := (sS "_law_mixed"), params := prAt pw.main.body 16, body := .stmts (bdAt pw.main.body 16), scope := scAt pw.main.body 16, globals := 0, closure := [], defaults := .none, kwdefaults := .none, doc := .none, pyModule := .none, annotations := none, code := .none, closureTuple := .none, builtins := 0 }), ⟨[]⟩⟩
noncomputable def o192x0 (P : Params) : Obj := ⟨(.type "code"), none, (.fields ⟨[(.str (sS "_law_mixed") 418), (.str (sS "_law_mixed") 419), (.str (sS "/claim/cut.py") 420), (.int (49) 0), (.int (2) 0), (.int (0) 0), (.int (0) 0), (.int (3) 0), (.ref 187), (.bool true), (.int (181) 0), (.ref 188), .none, (.ref 189), (.ref 190), (.ref 191), (.int (423) 0), (.int (49) 0), (.str (sS "/claim/cut.py") 424)]⟩), ⟨[]⟩⟩
noncomputable def o193x0 (P : Params) : Obj := ⟨(.type "function"), none, (.func { name := (sS "_law_mixed"), qualname := (sS "_law_mixed"), params := prAt pw.main.body 16, body := .stmts (bdAt pw.main.body 16), scope := scAt pw.main.body 16, globals := 3, closure := [], defaults := .none, kwdefaults := .none, doc := .none, pyModule := (.str (sS "law_uf020020_04") 408), annotations := none, code := (.ref 192), closureTuple := .none, builtins := 0 }), ⟨[]⟩⟩
noncomputable def o194x0 (P : Params) : Obj := ⟨(.type "tuple"), none, (.seq ⟨[]⟩ 0), ⟨[]⟩⟩
noncomputable def o195x0 (P : Params) : Obj := ⟨.none, none, (.fields ⟨[]⟩), ⟨[]⟩⟩
noncomputable def o196x0 (P : Params) : Obj := ⟨(.type "tuple"), none, (.seq ⟨[(.str (sS "_law_thing_here") 429)]⟩ 0), ⟨[]⟩⟩
noncomputable def o197x0 (P : Params) : Obj := ⟨(.type "tuple"), none, (.seq ⟨[]⟩ 0), ⟨[]⟩⟩
noncomputable def o198x0 (P : Params) : Obj := ⟨.none, none, (.func { name := (sS "_law_whole"), qualname := (sS "_law_whole"), params := prAt pw.main.body 17, body := .stmts (bdAt pw.main.body 17), scope := scAt pw.main.body 17, globals := 0, closure := [], defaults := .none, kwdefaults := .none, doc := .none, pyModule := .none, annotations := none, code := .none, closureTuple := .none, builtins := 0 }), ⟨[]⟩⟩
noncomputable def o199x0 (P : Params) : Obj := ⟨(.type "code"), none, (.fields ⟨[(.str (sS "_law_whole") 426), (.str (sS "_law_whole") 427), (.str (sS "/claim/cut.py") 428), (.int (51) 0), (.int (1) 0), (.int (0) 0), (.int (0) 0), (.int (3) 0), (.ref 194), (.bool true), (.int (181) 0), (.ref 195), .none, (.ref 196), (.ref 197), (.ref 198), (.int (430) 0), (.int (51) 0), (.str (sS "/claim/cut.py") 431)]⟩), ⟨[]⟩⟩
noncomputable def o200x0 (P : Params) : Obj := ⟨(.type "function"), none, (.func { name := (sS "_law_whole"), qualname := (sS "_law_whole"), params := prAt pw.main.body 17, body := .stmts (bdAt pw.main.body 17), scope := scAt pw.main.body 17, globals := 3, closure := [], defaults := .none, kwdefaults := .none, doc := .none, pyModule := (.str (sS "law_uf020020_04") 408), annotations := none, code := (.ref 199), closureTuple := .none, builtins := 0 }), ⟨[]⟩⟩
noncomputable def o201x0 (P : Params) : Obj := ⟨(.type "tuple"), none, (.seq ⟨[]⟩ 0), ⟨[]⟩⟩
noncomputable def o202x0 (P : Params) : Obj := ⟨.none, none, (.fields ⟨[]⟩), ⟨[]⟩⟩
noncomputable def o203x0 (P : Params) : Obj := ⟨(.type "tuple"), none, (.seq ⟨[(.str (sS "_law_error") 436), (.str (sS "_law_word_here") 437), (.str (sS "_law_is_other") 438)]⟩ 0), ⟨[]⟩⟩
noncomputable def o204x0 (P : Params) : Obj := ⟨(.type "tuple"), none, (.seq ⟨[]⟩ 0), ⟨[]⟩⟩
noncomputable def o205x0 (P : Params) : Obj := ⟨.none, none, (.func { name := (sS "_law_word"), qualname := (sS "_law_word"), params := prAt pw.main.body 18, body := .stmts (bdAt pw.main.body 18), scope := scAt pw.main.body 18, globals := 0, closure := [], defaults := .none, kwdefaults := .none, doc := .none, pyModule := .none, annotations := none, code := .none, closureTuple := .none, builtins := 0 }), ⟨[]⟩⟩
noncomputable def o206x0 (P : Params) : Obj := ⟨(.type "code"), none, (.fields ⟨[(.str (sS "_law_word") 433), (.str (sS "_law_word") 434), (.str (sS "/claim/cut.py") 435), (.int (53) 0), (.int (1) 0), (.int (0) 0), (.int (0) 0), (.int (3) 0), (.ref 201), (.bool true), (.int (181) 0), (.ref 202), .none, (.ref 203), (.ref 204), (.ref 205), (.int (439) 0), (.int (53) 0), (.str (sS "/claim/cut.py") 440)]⟩), ⟨[]⟩⟩
noncomputable def o207x0 (P : Params) : Obj := ⟨(.type "function"), none, (.func { name := (sS "_law_word"), qualname := (sS "_law_word"), params := prAt pw.main.body 18, body := .stmts (bdAt pw.main.body 18), scope := scAt pw.main.body 18, globals := 3, closure := [], defaults := .none, kwdefaults := .none, doc := .none, pyModule := (.str (sS "law_uf020020_04") 408), annotations := none, code := (.ref 206), closureTuple := .none, builtins := 0 }), ⟨[]⟩⟩
noncomputable def o208x0 (P : Params) : Obj := ⟨(.type "tuple"), none, (.seq ⟨[]⟩ 0), ⟨[]⟩⟩
noncomputable def o209x0 (P : Params) : Obj := ⟨.none, none, (.fields ⟨[]⟩), ⟨[]⟩⟩
noncomputable def o210x0 (P : Params) : Obj := ⟨(.type "tuple"), none, (.seq ⟨[(.str (sS "_law_post") 445), (.str (sS "_law_number") 446), (.str (sS "_law_error") 447)]⟩ 0), ⟨[]⟩⟩
noncomputable def o211x0 (P : Params) : Obj := ⟨(.type "tuple"), none, (.seq ⟨[]⟩ 0), ⟨[]⟩⟩
noncomputable def o212x0 (P : Params) : Obj := ⟨.none, none, (.func { name := (sS "_law_said"), qualname := (sS "_law_said"), params := prAt pw.main.body 19, body := .stmts (bdAt pw.main.body 19), scope := scAt pw.main.body 19, globals := 0, closure := [], defaults := .none, kwdefaults := .none, doc := .none, pyModule := .none, annotations := none, code := .none, closureTuple := .none, builtins := 0 }), ⟨[]⟩⟩
noncomputable def o213x0 (P : Params) : Obj := ⟨(.type "code"), none, (.fields ⟨[(.str (sS "_law_said") 442), (.str (sS "_law_said") 443), (.str (sS "/claim/cut.py") 444), (.int (60) 0), (.int (2) 0), (.int (0) 0), (.int (0) 0), (.int (3) 0), (.ref 208), (.bool true), (.int (181) 0), (.ref 209), .none, (.ref 210), (.ref 211), (.ref 212), (.int (448) 0), (.int (60) 0), (.str (sS "/claim/cut.py") 449)]⟩), ⟨[]⟩⟩
noncomputable def o214x0 (P : Params) : Obj := ⟨(.type "function"), none, (.func { name := (sS "_law_said"), qualname := (sS "_law_said"), params := prAt pw.main.body 19, body := .stmts (bdAt pw.main.body 19), scope := scAt pw.main.body 19, globals := 3, closure := [], defaults := .none, kwdefaults := .none, doc := .none, pyModule := (.str (sS "law_uf020020_04") 408), annotations := none, code := (.ref 213), closureTuple := .none, builtins := 0 }), ⟨[]⟩⟩
noncomputable def o215x0 (P : Params) : Obj := ⟨(.type "tuple"), none, (.seq ⟨[]⟩ 0), ⟨[]⟩⟩
noncomputable def o216x0 (P : Params) : Obj := ⟨.none, none, (.fields ⟨[]⟩), ⟨[]⟩⟩
noncomputable def o217x0 (P : Params) : Obj := ⟨(.type "tuple"), none, (.seq ⟨[(.str (sS "_law_cell") 454)]⟩ 0), ⟨[]⟩⟩
noncomputable def o218x0 (P : Params) : Obj := ⟨(.type "tuple"), none, (.seq ⟨[]⟩ 0), ⟨[]⟩⟩
noncomputable def o219x0 (P : Params) : Obj := ⟨.none, none, (.func { name := (sS "_law_thing"), qualname := (sS "_law_thing"), params := prAt pw.main.body 20, body := .stmts (bdAt pw.main.body 20), scope := scAt pw.main.body 20, globals := 0, closure := [], defaults := .none, kwdefaults := .none, doc := .none, pyModule := .none, annotations := none, code := .none, closureTuple := .none, builtins := 0 }), ⟨[]⟩⟩
noncomputable def o220x0 (P : Params) : Obj := ⟨(.type "code"), none, (.fields ⟨[(.str (sS "_law_thing") 451), (.str (sS "_law_thing") 452), (.str (sS "/claim/cut.py") 453), (.int (65) 0), (.int (1) 0), (.int (0) 0), (.int (0) 0), (.int (3) 0), (.ref 215), (.bool true), (.int (181) 0), (.ref 216), .none, (.ref 217), (.ref 218), (.ref 219), (.int (455) 0), (.int (65) 0), (.str (sS "/claim/cut.py") 456)]⟩), ⟨[]⟩⟩
noncomputable def o221x0 (P : Params) : Obj := ⟨(.type "function"), none, (.func { name := (sS "_law_thing"), qualname := (sS "_law_thing"), params := prAt pw.main.body 20, body := .stmts (bdAt pw.main.body 20), scope := scAt pw.main.body 20, globals := 3, closure := [], defaults := .none, kwdefaults := .none, doc := .none, pyModule := (.str (sS "law_uf020020_04") 408), annotations := none, code := (.ref 220), closureTuple := .none, builtins := 0 }), ⟨[]⟩⟩
noncomputable def o222x0 (P : Params) : Obj := ⟨(.type "tuple"), none, (.seq ⟨[]⟩ 0), ⟨[]⟩⟩
noncomputable def o223x0 (P : Params) : Obj := ⟨.none, none, (.fields ⟨[]⟩), ⟨[]⟩⟩
noncomputable def o224x0 (P : Params) : Obj := ⟨.none, none, (.func { name := (sS "_law_due"), qualname := (sS "_law_due"), params := prAt pw.main.body 21, body := .stmts (bdAt pw.main.body 21), scope := scAt pw.main.body 21, globals := 0, closure := [], defaults := .none, kwdefaults := .none, doc := .none, pyModule := .none, annotations := none, code := .none, closureTuple := .none, builtins := 0 }), ⟨[]⟩⟩
noncomputable def o225x0 (P : Params) : Obj := ⟨(.type "code"), none, (.fields ⟨[(.str (sS "_law_due") 458), (.str (sS "_law_due") 459), (.str (sS "/claim/cut.py") 460), (.int (67) 0), (.int (2) 0), (.int (0) 0), (.int (0) 0), (.int (3) 0), (.ref 222), (.bool true), (.int (181) 0), (.ref 223), .none, .none, .none, (.ref 224), (.int (461) 0), (.int (67) 0), (.str (sS "/claim/cut.py") 462)]⟩), ⟨[]⟩⟩
noncomputable def o226x0 (P : Params) : Obj := ⟨(.type "function"), none, (.func { name := (sS "_law_due"), qualname := (sS "_law_due"), params := prAt pw.main.body 21, body := .stmts (bdAt pw.main.body 21), scope := scAt pw.main.body 21, globals := 3, closure := [], defaults := .none, kwdefaults := .none, doc := .none, pyModule := (.str (sS "law_uf020020_04") 408), annotations := none, code := (.ref 225), closureTuple := .none, builtins := 0 }), ⟨[]⟩⟩
noncomputable def o227x0 (P : Params) : Obj := ⟨(.type "tuple"), none, (.seq ⟨[]⟩ 0), ⟨[]⟩⟩
noncomputable def o228x0 (P : Params) : Obj := ⟨.none, none, (.fields ⟨[]⟩), ⟨[]⟩⟩
noncomputable def o229x0 (P : Params) : Obj := ⟨.none, none, (.func { name := (sS "_law_there"), qualname := (sS "_law_there"), params := prAt pw.main.body 22, body := .stmts (bdAt pw.main.body 22), scope := scAt pw.main.body 22, globals := 0, closure := [], defaults := .none, kwdefaults := .none, doc := .none, pyModule := .none, annotations := none, code := .none, closureTuple := .none, builtins := 0 }), ⟨[]⟩⟩
noncomputable def o230x0 (P : Params) : Obj := ⟨(.type "code"), none, (.fields ⟨[(.str (sS "_law_there") 464), (.str (sS "_law_there") 465), (.str (sS "/claim/cut.py") 466), (.int (69) 0), (.int (4) 0), (.int (0) 0), (.int (0) 0), (.int (3) 0), (.ref 227), (.bool true), (.int (181) 0), (.ref 228), .none, .none, .none, (.ref 229), (.int (467) 0), (.int (69) 0), (.str (sS "/claim/cut.py") 468)]⟩), ⟨[]⟩⟩
noncomputable def o231x0 (P : Params) : Obj := ⟨(.type "function"), none, (.func { name := (sS "_law_there"), qualname := (sS "_law_there"), params := prAt pw.main.body 22, body := .stmts (bdAt pw.main.body 22), scope := scAt pw.main.body 22, globals := 3, closure := [], defaults := .none, kwdefaults := .none, doc := .none, pyModule := (.str (sS "law_uf020020_04") 408), annotations := none, code := (.ref 230), closureTuple := .none, builtins := 0 }), ⟨[]⟩⟩
noncomputable def o232x0 (P : Params) : Obj := ⟨(.type "tuple"), none, (.seq ⟨[]⟩ 0), ⟨[]⟩⟩
noncomputable def o233x0 (P : Params) : Obj := ⟨.none, none, (.fields ⟨[]⟩), ⟨[]⟩⟩
noncomputable def o234x0 (P : Params) : Obj := ⟨(.type "tuple"), none, (.seq ⟨[(.str (sS "_law_post") 473), (.str (sS "_law_bound") 474), (.str (sS "_law_things") 475), (.str (sS "_law_olds") 476), (.str (sS "_law_way") 477), (.str (sS "_law_number") 478)]⟩ 0), ⟨[]⟩⟩
noncomputable def o235x0 (P : Params) : Obj := ⟨(.type "tuple"), none, (.seq ⟨[]⟩ 0), ⟨[]⟩⟩
noncomputable def o236x0 (P : Params) : Obj := ⟨.none, none, (.func { name := (sS "_law_stands"), qualname := (sS "_law_stands"), params := prAt pw.main.body 23, body := .stmts (bdAt pw.main.body 23), scope := scAt pw.main.body 23, globals := 0, closure := [], defaults := .none, kwdefaults := .none, doc := .none, pyModule := .none, annotations := none, code := .none, closureTuple := .none, builtins := 0 }), ⟨[]⟩⟩
noncomputable def o237x0 (P : Params) : Obj := ⟨(.type "code"), none, (.fields ⟨[(.str (sS "_law_stands") 470), (.str (sS "_law_stands") 471), (.str (sS "/claim/cut.py") 472), (.int (78) 0), (.int (5) 0), (.int (0) 0), (.int (0) 0), (.int (3) 0), (.ref 232), (.bool true), (.int (181) 0), (.ref 233), .none, (.ref 234), (.ref 235), (.ref 236), (.int (479) 0), (.int (78) 0), (.str (sS "/claim/cut.py") 480)]⟩), ⟨[]⟩⟩
noncomputable def o238x0 (P : Params) : Obj := ⟨(.type "function"), none, (.func { name := (sS "_law_stands"), qualname := (sS "_law_stands"), params := prAt pw.main.body 23, body := .stmts (bdAt pw.main.body 23), scope := scAt pw.main.body 23, globals := 3, closure := [], defaults := .none, kwdefaults := .none, doc := .none, pyModule := (.str (sS "law_uf020020_04") 408), annotations := none, code := (.ref 237), closureTuple := .none, builtins := 0 }), ⟨[]⟩⟩
noncomputable def o239x0 (P : Params) : Obj := ⟨(.type "tuple"), none, (.seq ⟨[]⟩ 0), ⟨[]⟩⟩
noncomputable def o240x0 (P : Params) : Obj := ⟨.none, none, (.fields ⟨[]⟩), ⟨[]⟩⟩
noncomputable def o241x0 (P : Params) : Obj := ⟨.none, none, (.func { name := (sS "law"), qualname := (sS "law"), params := prAt pw.main.body 24, body := .stmts (bdAt pw.main.body 24), scope := scAt pw.main.body 24, globals := 0, closure := [], defaults := .none, kwdefaults := .none, doc := .none, pyModule := .none, annotations := none, code := .none, closureTuple := .none, builtins := 0 }), ⟨[]⟩⟩
noncomputable def o242x0 (P : Params) : Obj := ⟨(.type "code"), none, (.fields ⟨[(.str (sS "law") 482), (.str (sS "law") 483), (.str (sS "/claim/cut.py") 484), (.int (89) 0), (.int (1) 0), (.int (0) 0), (.int (0) 0), (.int (3) 0), (.ref 239), (.bool true), (.int (181) 0), (.ref 240), .none, .none, .none, (.ref 241), (.int (485) 0), (.int (89) 0), (.str (sS "/claim/cut.py") 486)]⟩), ⟨[]⟩⟩
noncomputable def o243x0 (P : Params) : Obj := ⟨(.type "function"), none, (.func { name := (sS "law"), qualname := (sS "law"), params := prAt pw.main.body 24, body := .stmts (bdAt pw.main.body 24), scope := scAt pw.main.body 24, globals := 3, closure := [], defaults := .none, kwdefaults := .none, doc := .none, pyModule := (.str (sS "law_uf020020_04") 408), annotations := none, code := (.ref 242), closureTuple := .none, builtins := 0 }), ⟨[]⟩⟩
noncomputable def t126 (P : Params) : BT := (.node (o31x0 P) (.node (o63x0 P) (.node (o127x0 P) .nil .nil) (.node (o191x0 P) .nil .nil)) (.node (o95x0 P) (.node (o159x0 P) .nil .nil) (.node (o223x0 P) .nil .nil)))
noncomputable def t127 (P : Params) : BT := (.node (o47x0 P) (.node (o79x0 P) (.node (o143x0 P) .nil .nil) (.node (o207x0 P) .nil .nil)) (.node (o111x0 P) (.node (o175x0 P) .nil .nil) (.node (o239x0 P) .nil .nil)))
noncomputable def t128 (P : Params) : BT := (.node (o39x0 P) (.node (o71x0 P) (.node (o135x0 P) .nil .nil) (.node (o199x0 P) .nil .nil)) (.node (o103x0 P) (.node (o167x0 P) .nil .nil) (.node (o231x0 P) .nil .nil)))
noncomputable def t129 (P : Params) : BT := (.node (o55x0 P) (.node (o87x0 P) (.node (o151x0 P) .nil .nil) (.node (o215x0 P) .nil .nil)) (.node (o119x0 P) (.node (o183x0 P) .nil .nil) .nil))
noncomputable def t130 (P : Params) : BT := (.node (boot_o_7 P) (.node (o15x0 P) (t126 P) (t127 P)) (.node (o23x0 P) (t128 P) (t129 P)))
noncomputable def t131 (P : Params) : BT := (.node (o35x0 P) (.node (o67x0 P) (.node (o131x0 P) .nil .nil) (.node (o195x0 P) .nil .nil)) (.node (o99x0 P) (.node (o163x0 P) .nil .nil) (.node (o227x0 P) .nil .nil)))
noncomputable def t132 (P : Params) : BT := (.node (o51x0 P) (.node (o83x0 P) (.node (o147x0 P) .nil .nil) (.node (o211x0 P) .nil .nil)) (.node (o115x0 P) (.node (o179x0 P) .nil .nil) (.node (o243x0 P) .nil .nil)))
noncomputable def t133 (P : Params) : BT := (.node (o43x0 P) (.node (o75x0 P) (.node (o139x0 P) .nil .nil) (.node (o203x0 P) .nil .nil)) (.node (o107x0 P) (.node (o171x0 P) .nil .nil) (.node (o235x0 P) .nil .nil)))
noncomputable def t134 (P : Params) : BT := (.node (o59x0 P) (.node (o91x0 P) (.node (o155x0 P) .nil .nil) (.node (o219x0 P) .nil .nil)) (.node (o123x0 P) (.node (o187x0 P) .nil .nil) .nil))
noncomputable def t135 (P : Params) : BT := (.node (o11x0 P) (.node (o19x0 P) (t131 P) (t132 P)) (.node (o27x0 P) (t133 P) (t134 P)))
noncomputable def t136 (P : Params) : BT := (.node (o33x0 P) (.node (o65x0 P) (.node (o129x0 P) .nil .nil) (.node (o193x0 P) .nil .nil)) (.node (o97x0 P) (.node (o161x0 P) .nil .nil) (.node (o225x0 P) .nil .nil)))
noncomputable def t137 (P : Params) : BT := (.node (o49x0 P) (.node (o81x0 P) (.node (o145x0 P) .nil .nil) (.node (o209x0 P) .nil .nil)) (.node (o113x0 P) (.node (o177x0 P) .nil .nil) (.node (o241x0 P) .nil .nil)))
noncomputable def t138 (P : Params) : BT := (.node (o41x0 P) (.node (o73x0 P) (.node (o137x0 P) .nil .nil) (.node (o201x0 P) .nil .nil)) (.node (o105x0 P) (.node (o169x0 P) .nil .nil) (.node (o233x0 P) .nil .nil)))
noncomputable def t139 (P : Params) : BT := (.node (o57x0 P) (.node (o89x0 P) (.node (o153x0 P) .nil .nil) (.node (o217x0 P) .nil .nil)) (.node (o121x0 P) (.node (o185x0 P) .nil .nil) .nil))
noncomputable def t140 (P : Params) : BT := (.node (boot_o_9 P) (.node (o17x0 P) (t136 P) (t137 P)) (.node (o25x0 P) (t138 P) (t139 P)))
noncomputable def t141 (P : Params) : BT := (.node (o37x0 P) (.node (o69x0 P) (.node (o133x0 P) .nil .nil) (.node (o197x0 P) .nil .nil)) (.node (o101x0 P) (.node (o165x0 P) .nil .nil) (.node (o229x0 P) .nil .nil)))
noncomputable def t142 (P : Params) : BT := (.node (o53x0 P) (.node (o85x0 P) (.node (o149x0 P) .nil .nil) (.node (o213x0 P) .nil .nil)) (.node (o117x0 P) (.node (o181x0 P) .nil .nil) .nil))
noncomputable def t143 (P : Params) : BT := (.node (o45x0 P) (.node (o77x0 P) (.node (o141x0 P) .nil .nil) (.node (o205x0 P) .nil .nil)) (.node (o109x0 P) (.node (o173x0 P) .nil .nil) (.node (o237x0 P) .nil .nil)))
noncomputable def t144 (P : Params) : BT := (.node (o61x0 P) (.node (o93x0 P) (.node (o157x0 P) .nil .nil) (.node (o221x0 P) .nil .nil)) (.node (o125x0 P) (.node (o189x0 P) .nil .nil) .nil))
noncomputable def t145 (P : Params) : BT := (.node (o13x0 P) (.node (o21x0 P) (t141 P) (t142 P)) (.node (o29x0 P) (t143 P) (t144 P)))
noncomputable def t146 (P : Params) : BT := (.node (boot_o_1 P) (.node (o3x10 P) (t130 P) (t135 P)) (.node (boot_o_5 P) (t140 P) (t145 P)))
noncomputable def t147 (P : Params) : BT := (.node (o32x0 P) (.node (o64x0 P) (.node (o128x0 P) .nil .nil) (.node (o192x0 P) .nil .nil)) (.node (o96x0 P) (.node (o160x0 P) .nil .nil) (.node (o224x0 P) .nil .nil)))
noncomputable def t148 (P : Params) : BT := (.node (o48x0 P) (.node (o80x0 P) (.node (o144x0 P) .nil .nil) (.node (o208x0 P) .nil .nil)) (.node (o112x0 P) (.node (o176x0 P) .nil .nil) (.node (o240x0 P) .nil .nil)))
noncomputable def t149 (P : Params) : BT := (.node (o40x0 P) (.node (o72x0 P) (.node (o136x0 P) .nil .nil) (.node (o200x0 P) .nil .nil)) (.node (o104x0 P) (.node (o168x0 P) .nil .nil) (.node (o232x0 P) .nil .nil)))
noncomputable def t150 (P : Params) : BT := (.node (o56x0 P) (.node (o88x0 P) (.node (o152x0 P) .nil .nil) (.node (o216x0 P) .nil .nil)) (.node (o120x0 P) (.node (o184x0 P) .nil .nil) .nil))
noncomputable def t151 (P : Params) : BT := (.node (boot_o_8 P) (.node (o16x0 P) (t147 P) (t148 P)) (.node (o24x8 P) (t149 P) (t150 P)))
noncomputable def t152 (P : Params) : BT := (.node (o36x0 P) (.node (o68x0 P) (.node (o132x0 P) .nil .nil) (.node (o196x0 P) .nil .nil)) (.node (o100x0 P) (.node (o164x0 P) .nil .nil) (.node (o228x0 P) .nil .nil)))
noncomputable def t153 (P : Params) : BT := (.node (o52x0 P) (.node (o84x0 P) (.node (o148x0 P) .nil .nil) (.node (o212x0 P) .nil .nil)) (.node (o116x0 P) (.node (o180x0 P) .nil .nil) .nil))
noncomputable def t154 (P : Params) : BT := (.node (o44x0 P) (.node (o76x0 P) (.node (o140x0 P) .nil .nil) (.node (o204x0 P) .nil .nil)) (.node (o108x0 P) (.node (o172x0 P) .nil .nil) (.node (o236x0 P) .nil .nil)))
noncomputable def t155 (P : Params) : BT := (.node (o60x0 P) (.node (o92x0 P) (.node (o156x0 P) .nil .nil) (.node (o220x0 P) .nil .nil)) (.node (o124x0 P) (.node (o188x0 P) .nil .nil) .nil))
noncomputable def t156 (P : Params) : BT := (.node (o12x11 P) (.node (o20x0 P) (t152 P) (t153 P)) (.node (o28x0 P) (t154 P) (t155 P)))
noncomputable def t157 (P : Params) : BT := (.node (o34x0 P) (.node (o66x0 P) (.node (o130x0 P) .nil .nil) (.node (o194x0 P) .nil .nil)) (.node (o98x0 P) (.node (o162x0 P) .nil .nil) (.node (o226x0 P) .nil .nil)))
noncomputable def t158 (P : Params) : BT := (.node (o50x0 P) (.node (o82x0 P) (.node (o146x0 P) .nil .nil) (.node (o210x0 P) .nil .nil)) (.node (o114x0 P) (.node (o178x0 P) .nil .nil) (.node (o242x0 P) .nil .nil)))
noncomputable def t159 (P : Params) : BT := (.node (o42x0 P) (.node (o74x0 P) (.node (o138x0 P) .nil .nil) (.node (o202x0 P) .nil .nil)) (.node (o106x0 P) (.node (o170x0 P) .nil .nil) (.node (o234x0 P) .nil .nil)))
noncomputable def t160 (P : Params) : BT := (.node (o58x0 P) (.node (o90x0 P) (.node (o154x0 P) .nil .nil) (.node (o218x0 P) .nil .nil)) (.node (o122x0 P) (.node (o186x0 P) .nil .nil) .nil))
noncomputable def t161 (P : Params) : BT := (.node (boot_o_10 P) (.node (o18x0 P) (t157 P) (t158 P)) (.node (o26x0 P) (t159 P) (t160 P)))
noncomputable def t162 (P : Params) : BT := (.node (o38x0 P) (.node (o70x0 P) (.node (o134x0 P) .nil .nil) (.node (o198x0 P) .nil .nil)) (.node (o102x0 P) (.node (o166x0 P) .nil .nil) (.node (o230x0 P) .nil .nil)))
noncomputable def t163 (P : Params) : BT := (.node (o54x0 P) (.node (o86x0 P) (.node (o150x0 P) .nil .nil) (.node (o214x0 P) .nil .nil)) (.node (o118x0 P) (.node (o182x0 P) .nil .nil) .nil))
noncomputable def t164 (P : Params) : BT := (.node (o46x0 P) (.node (o78x0 P) (.node (o142x0 P) .nil .nil) (.node (o206x0 P) .nil .nil)) (.node (o110x0 P) (.node (o174x0 P) .nil .nil) (.node (o238x0 P) .nil .nil)))
noncomputable def t165 (P : Params) : BT := (.node (o62x0 P) (.node (o94x0 P) (.node (o158x0 P) .nil .nil) (.node (o222x0 P) .nil .nil)) (.node (o126x0 P) (.node (o190x0 P) .nil .nil) .nil))
noncomputable def t166 (P : Params) : BT := (.node (o14x0 P) (.node (o22x0 P) (t162 P) (t163 P)) (.node (o30x0 P) (t164 P) (t165 P)))
noncomputable def t167 (P : Params) : BT := (.node (boot_o_2 P) (.node (boot_o_4 P) (t151 P) (t156 P)) (.node (boot_o_6 P) (t161 P) (t166 P)))
noncomputable def S11 (w : World) (os : OsState) : SharedT := (fun P => ⟨(.node (boot_o_0 P) (t146 P) (t167 P)), 244, lf0, ⟨[]⟩, ⟨0, 0, 0, 0⟩, 488, os⟩ : Params → SharedT) w.params
noncomputable def sts10 : List Stmt := ((behindTheImports pw).drop 16).take 9
noncomputable def pc10P (w : World) : Prop := (fun os => segRunT treeTable pw w m0 ann 1 263 (S10 w os) (piecesOf sts10 env cE ⟨45, 0, 48, 12⟩ B)) = fun os => some (Flow.next, S11 w os, cE, ⟨89, 0, 115, 83⟩)
theorem pc10 (w : World) : pc10P w := by
  unfold pc10P
  rw [PySem.W.Fast.te10110043849684766642, PySem.W.Fast.te14364793385576792824]
  kernel_rfl
noncomputable def Sfh (P : Params) : Heap := ⟨⟨[boot_o_0 P, boot_o_1 P, boot_o_2 P, o3x10 P, boot_o_4 P, boot_o_5 P, boot_o_6 P, boot_o_7 P, boot_o_8 P, boot_o_9 P, boot_o_10 P, o11x0 P, o12x11 P, o13x0 P, o14x0 P, o15x0 P, o16x0 P, o17x0 P, o18x0 P, o19x0 P, o20x0 P, o21x0 P, o22x0 P, o23x0 P, o24x8 P, o25x0 P, o26x0 P, o27x0 P, o28x0 P, o29x0 P, o30x0 P, o31x0 P, o32x0 P, o33x0 P, o34x0 P, o35x0 P, o36x0 P, o37x0 P, o38x0 P, o39x0 P, o40x0 P, o41x0 P, o42x0 P, o43x0 P, o44x0 P, o45x0 P, o46x0 P, o47x0 P, o48x0 P, o49x0 P, o50x0 P, o51x0 P, o52x0 P, o53x0 P, o54x0 P, o55x0 P, o56x0 P, o57x0 P, o58x0 P, o59x0 P, o60x0 P, o61x0 P, o62x0 P, o63x0 P, o64x0 P, o65x0 P, o66x0 P, o67x0 P, o68x0 P, o69x0 P, o70x0 P, o71x0 P, o72x0 P, o73x0 P, o74x0 P, o75x0 P, o76x0 P, o77x0 P, o78x0 P, o79x0 P, o80x0 P, o81x0 P, o82x0 P, o83x0 P, o84x0 P, o85x0 P, o86x0 P, o87x0 P, o88x0 P, o89x0 P, o90x0 P, o91x0 P, o92x0 P, o93x0 P, o94x0 P, o95x0 P, o96x0 P, o97x0 P, o98x0 P, o99x0 P, o100x0 P, o101x0 P, o102x0 P, o103x0 P, o104x0 P, o105x0 P, o106x0 P, o107x0 P, o108x0 P, o109x0 P, o110x0 P, o111x0 P, o112x0 P, o113x0 P, o114x0 P, o115x0 P, o116x0 P, o117x0 P, o118x0 P, o119x0 P, o120x0 P, o121x0 P, o122x0 P, o123x0 P, o124x0 P, o125x0 P, o126x0 P, o127x0 P, o128x0 P, o129x0 P, o130x0 P, o131x0 P, o132x0 P, o133x0 P, o134x0 P, o135x0 P, o136x0 P, o137x0 P, o138x0 P, o139x0 P, o140x0 P, o141x0 P, o142x0 P, o143x0 P, o144x0 P, o145x0 P, o146x0 P, o147x0 P, o148x0 P, o149x0 P, o150x0 P, o151x0 P, o152x0 P, o153x0 P, o154x0 P, o155x0 P, o156x0 P, o157x0 P, o158x0 P, o159x0 P, o160x0 P, o161x0 P, o162x0 P, o163x0 P, o164x0 P, o165x0 P, o166x0 P, o167x0 P, o168x0 P, o169x0 P, o170x0 P, o171x0 P, o172x0 P, o173x0 P, o174x0 P, o175x0 P, o176x0 P, o177x0 P, o178x0 P, o179x0 P, o180x0 P, o181x0 P, o182x0 P, o183x0 P, o184x0 P, o185x0 P, o186x0 P, o187x0 P, o188x0 P, o189x0 P, o190x0 P, o191x0 P, o192x0 P, o193x0 P, o194x0 P, o195x0 P, o196x0 P, o197x0 P, o198x0 P, o199x0 P, o200x0 P, o201x0 P, o202x0 P, o203x0 P, o204x0 P, o205x0 P, o206x0 P, o207x0 P, o208x0 P, o209x0 P, o210x0 P, o211x0 P, o212x0 P, o213x0 P, o214x0 P, o215x0 P, o216x0 P, o217x0 P, o218x0 P, o219x0 P, o220x0 P, o221x0 P, o222x0 P, o223x0 P, o224x0 P, o225x0 P, o226x0 P, o227x0 P, o228x0 P, o229x0 P, o230x0 P, o231x0 P, o232x0 P, o233x0 P, o234x0 P, o235x0 P, o236x0 P, o237x0 P, o238x0 P, o239x0 P, o240x0 P, o241x0 P, o242x0 P, o243x0 P]⟩, lf0⟩
noncomputable def Sf (w : World) (os : OsState) : Shared := ⟨Sfh w.params, ⟨[]⟩, ⟨0, 0, 0, 0⟩, 488, os⟩
noncomputable def finP (w : World) : Prop := (fun os => topRun treeTable pw w m0 ann 2 (S11 w os).abs ⟨doneF .next, cE, ⟨89, 0, 115, 83⟩, B⟩) = fun os => some (Sf w os)
theorem fin (w : World) : finP w := by
  unfold finP
  rw [PySem.W.Fast.te14082659384304107361, PySem.W.Fast.te14364793385576792824]
  kernel_rfl
noncomputable def K (P : Params) : Frag := [(2, boot_o_2 P), (3, o3x10 P), (15, o15x0 P), (22, o22x0 P), (23, o23x0 P), (24, o24x8 P), (25, o25x0 P), (28, o28x0 P), (35, o35x0 P), (36, o36x0 P), (37, o37x0 P), (40, o40x0 P), (47, o47x0 P), (48, o48x0 P), (49, o49x0 P), (52, o52x0 P), (59, o59x0 P), (60, o60x0 P), (61, o61x0 P), (64, o64x0 P), (71, o71x0 P), (72, o72x0 P), (73, o73x0 P), (76, o76x0 P), (83, o83x0 P), (84, o84x0 P), (85, o85x0 P), (88, o88x0 P), (95, o95x0 P), (96, o96x0 P), (97, o97x0 P), (100, o100x0 P), (107, o107x0 P), (108, o108x0 P), (109, o109x0 P), (112, o112x0 P), (119, o119x0 P), (120, o120x0 P), (121, o121x0 P), (124, o124x0 P), (126, o126x0 P), (127, o127x0 P), (129, o129x0 P), (130, o130x0 P), (138, o138x0 P), (140, o140x0 P), (141, o141x0 P), (143, o143x0 P), (144, o144x0 P), (145, o145x0 P), (147, o147x0 P), (148, o148x0 P), (150, o150x0 P), (151, o151x0 P), (152, o152x0 P), (154, o154x0 P), (155, o155x0 P), (157, o157x0 P), (158, o158x0 P), (159, o159x0 P), (161, o161x0 P), (162, o162x0 P), (164, o164x0 P), (165, o165x0 P), (166, o166x0 P), (168, o168x0 P), (169, o169x0 P), (171, o171x0 P), (172, o172x0 P), (173, o173x0 P), (174, o174x0 P), (175, o175x0 P), (176, o176x0 P), (177, o177x0 P), (180, o180x0 P), (182, o182x0 P), (183, o183x0 P), (185, o185x0 P), (186, o186x0 P), (187, o187x0 P), (189, o189x0 P), (190, o190x0 P), (192, o192x0 P), (193, o193x0 P), (194, o194x0 P), (196, o196x0 P), (197, o197x0 P), (199, o199x0 P), (200, o200x0 P), (201, o201x0 P), (203, o203x0 P), (204, o204x0 P), (206, o206x0 P), (207, o207x0 P), (208, o208x0 P), (210, o210x0 P), (211, o211x0 P), (213, o213x0 P), (214, o214x0 P), (215, o215x0 P), (217, o217x0 P), (218, o218x0 P), (220, o220x0 P), (221, o221x0 P), (222, o222x0 P), (225, o225x0 P), (226, o226x0 P), (227, o227x0 P), (230, o230x0 P), (231, o231x0 P), (232, o232x0 P), (234, o234x0 P), (235, o235x0 P), (237, o237x0 P), (238, o238x0 P), (239, o239x0 P), (242, o242x0 P), (243, o243x0 P)]
noncomputable def kas : List Addr := [2, 3, 15, 22, 23, 24, 25, 28, 35, 36, 37, 40, 47, 48, 49, 52, 59, 60, 61, 64, 71, 72, 73, 76, 83, 84, 85, 88, 95, 96, 97, 100, 107, 108, 109, 112, 119, 120, 121, 124, 126, 127, 129, 130, 138, 140, 141, 143, 144, 145, 147, 148, 150, 151, 152, 154, 155, 157, 158, 159, 161, 162, 164, 165, 166, 168, 169, 171, 172, 173, 174, 175, 176, 177, 180, 182, 183, 185, 186, 187, 189, 190, 192, 193, 194, 196, 197, 199, 200, 201, 203, 204, 206, 207, 208, 210, 211, 213, 214, 215, 217, 218, 220, 221, 222, 225, 226, 227, 230, 231, 232, 234, 235, 237, 238, 239, 242, 243]
theorem bodyEq : behindTheImports pw = (sts0 ++ (sts1 ++ (sts2 ++ (sts3 ++ (sts4 ++ (sts5 ++ (sts6 ++ (sts7 ++ (sts8 ++ (sts9 ++ (sts10 ++ []))))))))))) := by kernel_rfl
noncomputable def nTop : Nat := 12 + (1 + (196 + (214 + (214 + (214 + (214 + (214 + (214 + (214 + (263 + (389 + (263 + 2))))))))))))
theorem rest (w : World) (os : OsState) : topRun treeTable pw w m0 ann ((196 + (214 + (214 + (214 + (214 + (214 + (214 + (214 + (263 + (389 + (263 + 2)))))))))))) (Sb w os).abs (restOf (behindTheImports pw) env cE ⟨0, 0, 0, 0⟩ B) = some (Sf w os) := by
  rw [bodyEq]
  exact (piece_app (segRun_of (congrFun (pc0 w) os)) (piece_app (segRun_of (congrFun (pc1 w) os)) (piece_app (segRun_of (congrFun (pc2 w) os)) (piece_app (segRun_of (congrFun (pc3 w) os)) (piece_app (segRun_of (congrFun (pc4 w) os)) (piece_app (segRun_of (congrFun (pc5 w) os)) (piece_app (segRun_of (congrFun (pc6 w) os)) (piece_app (segRun_of (congrFun (pc7 w) os)) (piece_app (segRun_of (congrFun (pc8 w) os)) (piece_app (segRun_of (congrFun (pc9 w) os)) (piece_app (segRun_of (congrFun (pc10 w) os)) (piece_nil (congrFun (fin w) os)))))))))))))
theorem run (w : World) (os : OsState) : topRun treeTable pw w m0 ann nTop (S0 w os) (topStub pw) = some (Sf w os) :=
  go_top (congrFun (pre w) os) (piece_block (congrFun (blk w) os) (rest w os))
noncomputable def nAll : Nat := 5322
noncomputable def q : Program := view pw [1, 2, 3, 4, 5, 6, 7, 8, 9, 11, 13, 15, 16, 17, 18, 19, 20, 21, 22, 23, 24]
noncomputable def loose : List Str := []
end Ap.L04
end
section
set_option Elab.async false
set_option maxRecDepth 100000
set_option maxHeartbeats 4000000
set_option linter.unusedVariables false
namespace Ap.L04
open PySem PySem.W PySem.Calls PyProof.Rows
noncomputable abbrev rw0 : OpenLaw := PySem.Challenge.rw_uf020020_04
noncomputable abbrev rr : RowW := (OpenLaw.row rw0).toRowW
theorem kasK (P : Params) : kas = (K P).map (·.1) := by kernel_rfl
noncomputable abbrev hk : Hook := kHook K kas kasK
noncomputable def lv : List (Str × WData) := []
noncomputable def Xt : Shared → Bool := fun s => xlAt q lv s && recOk (RowW.records rr) s
theorem opn (w : World) : (fencedOpening treeTable pw w nAll).map (fun s => (s.heap, s.gens, s.drawn, s.toks)) = some (boot_heap w.params, Array.mk [], boot_drawn, boot_toks) :=
  boot_open (by kernel_rfl) (by kernel_rfl) (fun s => by kernel_rfl) w
theorem siz (w : World) : ((boot_heap w.params).isNs mainGlobals && (Array.mk [] : Array GenState).size == 0, (boot_heap w.params).objs.size, (boot_heap w.params).nsMap mainGlobals "__annotations__") = (true, m0, ann) := by kernel_rfl
theorem lk0 (w : World) : (fun os => staticsOk (importedModules pw.main.body) (boot_heap w.params) (Sfh w.params) && namesBound pw (Sfh w.params) && gensDone (Sf w os) && laidKept (boot_heap w.params) (Sfh w.params)) = fun os => true := by
  rw [PySem.W.Fast.te5923862056798008813]
  kernel_rfl
theorem lk1 (w : World) : (fun os => seen ((recsOf q).map (·.name)) (ownsOf q) [] { (Sf w os) with gens := #[] }) = fun os => expectedOf q := by
  rw [PySem.W.Fast.te5160383126252970620, PySem.W.Fast.te3399658132070893891, PySem.W.Fast.te5991557255702980513]
  kernel_rfl
theorem lk2 (w : World) : (fun os => (Sf w os).heap.bltView) = fun os => bltViewBooted := by
  kernel_rfl
theorem lk3 (w : World) : (fun os => (Sf w os).heap.keysOk (looseW q loose) ((recsOf q).map (·.name)) ((litsOf q).map (·.1)) ((clssOf q (looseW q loose)).map (·.name)) && (Sf w os).heap.accountedOkI (importedModules pw.main.body) && (Sf w os).heap.isNs mainGlobals && (Sf w os).heap.isNs builtinsNs && tablesOk q (Sf w os).heap && Xt (Sf w os) && (if true then (Sf w os).gens.size == 0 else !leftWithCleanup (Sf w os).gens)) = fun os => true := by
  rw [PySem.W.Fast.te10880121769531294198, PySem.W.Fast.te821141287760084731, PySem.W.Fast.te3399658132070893891, PySem.W.Fast.te7409074990110511671, PySem.W.Fast.te13664370479719496447, PySem.W.Fast.te14722251495701143533, PySem.W.Fast.te5923862056798008813, PySem.W.Fast.te10994771534591457954]
  kernel_rfl
theorem lk4 (w : World) : (fun os => tabsOk q (Sf w os)) = fun os => true := by
  rw [PySem.W.Fast.te479339242167458305]
  kernel_rfl
theorem lk5 (w : World) : (fun os => pinSeenD q (drecsOf q) (Sf w os)) = fun os => pinGoodD (drecsOf q) := by
  rw [PySem.W.Fast.te16090120013241838585, PySem.W.Fast.te3247288618530077131]
  kernel_rfl
theorem lk6 (w : World) : (fun os => plainSeenE q (looseW q loose) (Sf w os)) = fun os => plainGoodE q (looseW q loose) := by
  rw [PySem.W.Fast.te2386780881361962483, PySem.W.Fast.te821141287760084731]
  kernel_rfl
theorem lk7 (w : World) : (fun os => plainSeenD q loose (Sf w os)) = fun os => plainGoodD q loose := by
  rw [PySem.W.Fast.te11698064438423848299]
  kernel_rfl
theorem lk8 (w : World) : (fun os => wideSeen q (Sf w os)) = fun os => wideGood q := by
  rw [PySem.W.Fast.te7317090234206586261]
  kernel_rfl
theorem lk9 (w : World) : (fun os => clsSeenW q loose (Sf w os)) = fun os => clsGoodW q loose := by
  rw [PySem.W.Fast.te7369524293546568484]
  kernel_rfl
theorem lkY (w : World) : (fun os => kas.map (Sf w os).heap.get?) = fun os => (K w.params).map fun p => some p.2 := by
  kernel_rfl
theorem looks (w : World) : (fun os => ((staticsOk (importedModules pw.main.body) (boot_heap w.params) (Sfh w.params) && namesBound pw (Sfh w.params) && gensDone (Sf w os) && laidKept (boot_heap w.params) (Sfh w.params)),
    openSeen q loose (importedModules pw.main.body) Xt true (Sf w os), hk.obs (Sf w os))) = fun _ => (true, openGood q loose, hk.val w) := by
  funext os
  exact looks_pair (congrFun (lk0 w) os) (looks_pair (α := _ × _) (β := List (Option Obj)) (looks_pair (congrFun (lk1 w) os) (looks_pair (congrFun (lk2 w) os) (looks_pair (congrFun (lk3 w) os) (looks_pair (congrFun (lk4 w) os) (looks_pair (congrFun (lk5 w) os) (looks_pair (congrFun (lk6 w) os) (looks_pair (congrFun (lk7 w) os) (looks_pair (congrFun (lk8 w) os) (congrFun (lk9 w) os))))))))) (congrFun (lkY w) os))
theorem left : LeftO pw q loose Xt hk.obs hk.val nAll := LeftO.of_pieces (H₀ := boot_heap) (H₁ := Sfh) opn siz run (by decide +kernel) looks
theorem dkS : (defOf q rr.name).isSome = true := by kernel_rfl
noncomputable def dk : DefRec × List (Str × PySem.Expr) := (defOf q rr.name).get dkS
theorem dkE : defOf q rr.name = some (dk.1, dk.2) := by kernel_rfl
theorem dkP : rr.prog.theDef rr.name = some (dk.1.params, dk.1.body, dk.1.scope) := by kernel_rfl
theorem dkK : kwWritten? dk.1.params.kwonlyargs dk.1.params.kw_defaults = some dk.2 := by kernel_rfl
theorem dkN : dk.1.name = Str.ofString "law" := by kernel_rfl
theorem ws : rw0.wellSaid = true := by
  rw [PySem.W.Fast.te9446332074065402090]
  kernel_rfl
theorem bare : rr.prog.bare := ⟨rfl, rfl, rfl, rfl, rfl, by decide +kernel⟩
theorem hdOk : (chainsOk q && opensWell rr.prog && (frees rr && rr.within.isEmpty)) = true := by kernel_rfl
theorem prm : RowW.promised (OpenLaw.row PySem.Challenge.rw_uf020020_04).toRowW := by w_witness2
theorem hd (hc : WalkO q loose (XL q lv) hk.says rr dk.1 dk.2 fun f vs => PySem.call f vs) : PySem.Challenge.rw_uf020020_04.Holds :=
  holds_law ws fun said => holds_open (r := OpenLaw.row rw0) left hk.of hk.keeps (fun s e => xl_of s (Bool.and_eq_true_iff.mp e).1) XL.keeps dkE dkP dkK (fun s e => recFacts_of (Bool.and_eq_true_iff.mp e).2) (by kernel_rfl) said hdOk bare prm hc
end Ap.L04
end
section
set_option Elab.async false
set_option linter.unusedVariables false
set_option linter.unusedSimpArgs false
set_option linter.unusedSectionVars false
namespace Ap
open PySem
section
variable {σ : St} {Q : PQ} {E : PE} {ρ : Loc} {z : Bool} {n : Nat} {R : Option AV → St → Prop} {src : WX} {tb : TB} {caps : List Nat} {c e : WE} {v y : AV} {es : WL} {xs : List AV} {G : St → Prop} {K : Bool → Prop} {l : Nat} {x : Int}
theorem e_compF : vCompF z src tb caps c e ρ σ Q E = ((caps.all fun i => (getL ρ i).isSome) = true ∧ src ρ σ (kCompF z tb c e (maskL caps ρ) Q) E) := rfl
theorem d_kCompF : kCompF z tb c e ρ Q xs G σ = compLF G (bCmpF tb c e ρ) xs [] σ (kCmpE z Q) := rfl
theorem d_bCmpF : bCmpF (tb1 n) c e ρ v σ R = c (setL ρ n v) σ (onT (kCF e (setL ρ n v) R)) eNo := propext ⟨fun ⟨_, e, q⟩ => by cases e; exact q, fun q => ⟨_, rfl, q⟩⟩
theorem d_kCF1 : kCF e ρ R true σ = e ρ σ (kSome R) eNo := rfl
theorem d_kCF0 : kCF e ρ R false σ = R Option.none σ := rfl
theorem d_kSome : kSome R y σ = R (some y) σ := rfl
theorem d_listR : vListR z es ρ σ Q E = es ρ σ (kListR z Q) E := rfl
theorem d_kListR2 {a b : Int} : kListR z Q [.int a, .int b] σ = ((a.natAbs < 2 ^ 60 ∧ b.natAbs < 2 ^ 60 ∧ b - a ≤ 1000000) ∧ mkL z (rangeL a b) σ Q) := propext ⟨fun ⟨_, _, e, h, q⟩ => by cases e; exact ⟨h, q⟩, fun ⟨h, q⟩ => ⟨_, _, rfl, h, q⟩⟩
theorem x_lenO (h : σ l = some (.list xs)) : oLenO [.obj l] σ Q = Q (.int xs.length) σ := propext ⟨fun ⟨_, _, e1, e2, q⟩ => by cases e1; rw [h] at e2; cases e2; exact q, fun q => ⟨_, _, rfl, h, q⟩⟩
theorem x_inL {ns : List Int} (h : intsOf xs = some ns) : cInL (.int x) (.ilist xs) σ K = K (ns.any (· == x)) := propext ⟨fun ⟨_, _, _, e1, e2, e3, q⟩ => by cases e1; cases e2; rw [h] at e3; cases e3; exact q, fun q => ⟨_, _, _, rfl, rfl, h, q⟩⟩
theorem compLF_sel {B : AV → St → (Option AV → St → Prop) → Prop} {R : List AV → St → Prop} (p : AV → Bool) (hG : G σ) : ∀ (xs acc : List AV), (∀ x ∈ xs, ∀ R : Option AV → St → Prop, (p x = true → R (some x) σ) → (p x = false → R Option.none σ) → B x σ R) → R (acc ++ xs.filter p) σ → compLF G B xs acc σ R := by
  intro xs
  induction xs with
  | nil => intro acc _ h; exact ⟨hG, by rw [List.filter_nil, List.append_nil] at h; exact h⟩
  | cons x xs ih =>
    intro acc h1 h2
    refine ⟨hG, h1 x List.mem_cons_self _ (fun hp => ?_) (fun hp => ?_)⟩
    · refine ih (acc ++ [x]) (fun y hy => h1 y (List.mem_cons_of_mem _ hy)) ?_
      rw [List.append_assoc]
      rw [List.filter_cons, if_pos hp] at h2
      exact h2
    · refine ih acc (fun y hy => h1 y (List.mem_cons_of_mem _ hy)) ?_
      rw [List.filter_cons, if_neg (by rw [hp]; exact Bool.false_ne_true)] at h2
      exact h2
theorem fmod_nn {a b : Int} (h : 0 < b) : 0 ≤ a.fmod b := Int.fmod_nonneg_of_pos a h
theorem fmod_lt {a b : Int} (h : 0 < b) : a.fmod b < b := Int.fmod_lt_of_pos a h
theorem rangeL_at {a b : Int} {i : Nat} {x : AV} (h : (rangeL a b)[i]? = some x) : i < (b - a).toNat ∧ x = .int (a + i) := by
  unfold rangeL at h
  rw [List.getElem?_map, Option.map_eq_some_iff] at h
  obtain ⟨k, hk, rfl⟩ := h
  obtain ⟨h1, h2⟩ := List.getElem?_eq_some_iff.mp hk
  rw [List.getElem_range] at h2
  rw [List.length_range] at h1
  exact ⟨h1, by rw [h2]⟩
theorem rangeL_len (a b : Int) : (rangeL a b).length = (b - a).toNat := by unfold rangeL; rw [List.length_map, List.length_range]
theorem rangeL_mem {a b : Int} {x : AV} (h : x ∈ rangeL a b) : ∃ i : Int, x = .int i ∧ a ≤ i ∧ i < b := by
  unfold rangeL at h
  obtain ⟨k, hk, rfl⟩ := List.mem_map.mp h
  have := List.mem_range.mp hk
  exact ⟨_, rfl, by omega, by omega⟩
theorem rangeL_cut (n m : Nat) : rangeL 0 ((n + m : Nat) : Int) = rangeL 0 (n : Int) ++ rangeL (n : Int) ((n + m : Nat) : Int) := by
  unfold rangeL
  rw [show (((n + m : Nat) : Int) - 0).toNat = n + m by omega, show (((n : Nat) : Int) - 0).toNat = n by omega, show (((n + m : Nat) : Int) - (n : Int)).toNat = m by omega, List.range_add, List.map_append, List.map_map]
  congr 1
  apply List.map_congr_left
  intro k _
  show AV.int (0 + ((n + k : Nat) : Int)) = AV.int ((n : Int) + (k : Int))
  congr 1
  omega
theorem rangeL_ints (a b : Int) : intsOf (rangeL a b) = some ((List.range (b - a).toNat).map fun k : Nat => a + (k : Int)) := by
  unfold intsOf rangeL
  generalize List.range (b - a).toNat = r
  induction r with
  | nil => rfl
  | cons k r ih => rw [List.map_cons, mapO, ih]; rfl
theorem range_any {a b x : Int} : (((List.range (b - a).toNat).map fun k : Nat => a + (k : Int)).any (· == x)) = decide (a ≤ x ∧ x < b) := by
  by_cases h : a ≤ x ∧ x < b
  · rw [decide_eq_true h, List.any_eq_true]
    refine ⟨x, List.mem_map.mpr ⟨(x - a).toNat, List.mem_range.mpr (by omega), by omega⟩, beq_self_eq_true _⟩
  · rw [decide_eq_false h, List.any_eq_false]
    intro y hy
    obtain ⟨k, hk, rfl⟩ := List.mem_map.mp hy
    have := List.mem_range.mp hk
    intro e
    have e := eq_of_beq e
    omega
theorem x_all {xs : List AV} (h : ∀ x ∈ xs, x = .bool true) : oAll [.ilist xs] σ Q = Q (.bool true) σ := by
  have e : xs = (List.replicate xs.length true).map AV.bool := by
    induction xs with
    | nil => rfl
    | cons x xs ih => rw [h x List.mem_cons_self, List.length_cons, List.replicate_succ, List.map_cons, ← ih fun y hy => h y (List.mem_cons_of_mem _ hy)]
  refine propext ⟨fun ⟨bs, e', q⟩ => ?_, fun q => ⟨_, by rw [← e], ?_⟩⟩
  · have e2 : xs = bs.map AV.bool := by cases e'; rfl
    have : bs.all id = true := by
      rw [List.all_eq_true]
      intro b hb
      have := h (.bool b) (by rw [e2]; exact List.mem_map.mpr ⟨b, hb, rfl⟩)
      cases this; rfl
    rw [this] at q
    exact q
  · have : (List.replicate xs.length true).all id = true := by rw [List.all_eq_true]; intro b hb; rw [List.eq_of_mem_replicate hb]; rfl
    rw [this]
    exact q
theorem x_neT {u v : AV} {a : PyData} (h1 : rd 8 σ u = some a) (h2 : rd 8 σ v = some a) (h3 : PyData.eqv a a = true) : cNe u v σ K = K false := by rw [x_ne h1 h2, h3]; rfl
theorem x_eqT {u v : AV} {a : PyData} (h1 : rd 8 σ u = some a) (h2 : rd 8 σ v = some a) (h3 : PyData.eqv a a = true) : cEq u v σ K = K true := by rw [x_eq h1 h2, h3]
theorem c_neI {i j : Int} : cNe (.int i) (.int j) σ K = K (!(i == j)) := x_ne (p := .int i) (q := .int j) rfl rfl
theorem ne_ts {s t : Str} : cNe (.tup [.str s, .str t]) (.tup [.str s, .str t]) σ K = K false := x_neT (a := .tuple [.str s, .str t]) rfl rfl (by simp [PyData.eqv, PyData.eqvAll])
theorem idx_all {xs : List AV} {i : Int} (h0 : 0 ≤ i) (h1 : i < xs.length) (h : ∀ v ∈ xs, Q v σ) : oIdxL (.ilist xs) (.int i) σ Q := by
  rw [i_l]
  refine ⟨h0, ?_⟩
  have hl : i.toNat < xs.length := by omega
  rw [List.getElem?_eq_getElem hl]
  exact h _ (List.getElem_mem hl)
theorem mul0 (x : Str) : Txt.mul x 0 = Str.empty := rfl
theorem mul1 (x : Str) : Txt.mul x 1 = x := by simp [Txt.mul]
theorem app0 (x : Str) : x ++ Str.empty = x := by
  show Str.mk (x.cps ++ #[]) = x
  rw [Array.append_empty]
theorem app1 (x : Str) : Str.empty ++ x = x := by
  show Str.mk (#[] ++ x.cps) = x
  rw [Array.empty_append]
theorem t_ii {i : Int} : isTy .int (.int i) = true := rfl
theorem t_bi {i : Int} : isTy .bool (.int i) = false := rfl
theorem t_ib {b : Bool} : isTy .int (.bool b) = true := rfl
theorem t_bb {b : Bool} : isTy .bool (.bool b) = true := rfl
def isInt : AV → Bool
  | .int _ => true
  | _ => false
def amongB (v : AV) (lo hi : Int) : Bool := match v with
  | .int i => decide (lo ≤ i) && decide (i ≤ hi)
  | _ => false
theorem ne_of {a b : Nat} {o : AObj} (h : σ a = some o) (hb : σ b = Option.none) : a ≠ b := fun q => by rw [q, hb] at h; cases h
def Flat (v : AV) : Prop := (∃ s, v = .str s) ∨ (∃ i, v = .int i) ∨ (∃ i s, v = .tup [.int i, .str s]) ∨ ∃ i s, v = .tup [.str s, .int i]
noncomputable def pd : AV → PyData
  | .str s => .str s
  | .int i => .int i
  | .tup [.int i, .str s] => .tuple [.int i, .str s]
  | .tup [.str s, .int i] => .tuple [.str s, .int i]
  | _ => .none
theorem rd_flat {v : AV} (h : Flat v) : rd 7 σ v = some (pd v) := by
  rcases h with ⟨s, rfl⟩ | ⟨i, rfl⟩ | ⟨i, s, rfl⟩ | ⟨i, s, rfl⟩ <;> rfl
theorem eqv_flat {v : AV} (h : Flat v) : PyData.eqv (pd v) (pd v) = true := by
  rcases h with ⟨s, rfl⟩ | ⟨i, rfl⟩ | ⟨i, s, rfl⟩ | ⟨i, s, rfl⟩ <;> simp [pd, PyData.eqv, PyData.eqvAll]
theorem mapO_flat : ∀ {xs : List AV}, (∀ x ∈ xs, Flat x) → mapO (rd 7 σ) xs = some (xs.map pd) := by
  intro xs
  induction xs with
  | nil => intro _; rfl
  | cons x xs ih =>
    intro h
    rw [mapO, rd_flat (h x List.mem_cons_self), ih fun y hy => h y (List.mem_cons_of_mem _ hy)]
    rfl
theorem rd_i {xs : List AV} (h : ∀ x ∈ xs, Flat x) : rd 8 σ (.ilist xs) = some (.list (xs.map pd)) := by
  show (mapO (rd 7 σ) xs).map PyData.list = _
  rw [mapO_flat h]; rfl
theorem rd_o {a : Nat} {xs : List AV} (ha : σ a = some (.list xs)) (h : ∀ x ∈ xs, Flat x) : rd 8 σ (.obj a) = some (.list (xs.map pd)) := by
  show ((match σ a with | some (.list xs) => some xs | _ => Option.none).bind fun xs => (mapO (rd 7 σ) xs).map PyData.list) = _
  rw [ha]
  show (mapO (rd 7 σ) xs).map PyData.list = _
  rw [mapO_flat h]; rfl
theorem eqv_self {xs : List AV} (h : ∀ x ∈ xs, Flat x) : PyData.eqv (.list (xs.map pd)) (.list (xs.map pd)) = true := by
  rw [PyData.eqv]
  induction xs with
  | nil => rfl
  | cons x xs ih => rw [List.map_cons, PyData.eqvAll, eqv_flat (h x List.mem_cons_self), ih fun y hy => h y (List.mem_cons_of_mem _ hy)]; rfl
theorem ne_tf {s : Str} {v : AV} (h : Flat v) : cNe (.tup [.str s, v]) (.tup [.str s, v]) σ K = K false := by
  refine x_neT (a := .tuple [.str s, pd v]) ?_ ?_ ?_
  · show (mapO (rd 7 σ) [.str s, v]).map PyData.tuple = _
    rw [mapO_flat (xs := [.str s, v]) (fun x hx => ?_)]
    · rfl
    · simp only [List.mem_cons, List.not_mem_nil, or_false] at hx
      rcases hx with rfl | rfl
      · exact .inl ⟨_, rfl⟩
      · exact h
  · show (mapO (rd 7 σ) [.str s, v]).map PyData.tuple = _
    rw [mapO_flat (xs := [.str s, v]) (fun x hx => ?_)]
    · rfl
    · simp only [List.mem_cons, List.not_mem_nil, or_false] at hx
      rcases hx with rfl | rfl
      · exact .inl ⟨_, rfl⟩
      · exact h
  · rw [PyData.eqv, PyData.eqvAll, PyData.eqvAll, PyData.eqvAll, eqv_flat h]
    simp [PyData.eqv]
end
end Ap
end
section
set_option Elab.async false
set_option maxRecDepth 100000
set_option linter.unusedVariables false
namespace Ap.L04
open PySem
def clss : List ClsI := [⟨Option.none, [], [0]⟩, ⟨Option.none, [], [1, 0]⟩, ⟨Option.none, [], [2, 0]⟩, ⟨Option.none, [], [3, 0]⟩, ⟨Option.none, [], [4, 0]⟩, ⟨Option.none, [], [5, 0]⟩, ⟨Option.none, [], [6, 0]⟩, ⟨Option.none, [], [7, 0]⟩, ⟨Option.none, [], [8, 0]⟩, ⟨some 1, [(5, 2), (4, 3), (2, 4), (3, 5)], []⟩]
def w0 (F : Calls) : WS := (bCons (sRet (vBl (blCons true (vO1 (oIsi .int) (vVar 0)) (blCons true (vO1 oNot (vO1 (oIsi .bool) (vVar 0))) (blCons true (vCmp (vVar 1) (cCons cLe (vVar 0) (cCons cLe (vVar 2) cNil))) (blNil true)))))) bNil)
def w1 (F : Calls) : WS := (bCons (sSetAttr (vVar 0) 9 0 (vVar 1)) (bCons (sSetAttr (vVar 0) 9 1 (vLst true lNil)) bNil))
def w2 (F : Calls) : WS := (bCons (sRet (vON oMax2 (lCons (vC (.int 0)) (lCons (vO2 oSub (vO2 oSub (vON oLenO (lCons (vO1 (oAttr 9 1) (vVar 0)) lNil)) (vC (.int 1))) (vO1 (oAttr 9 0) (vVar 0))) lNil)))) bNil)
def w3 (F : Calls) : WS := (bCons (sExpr (vBm rcL oAppend (vO1 (oAttr 9 1) (vVar 0)) (lCons (vVar 1) lNil))) (bCons (sRet (vO2 oSub (vON oLenO (lCons (vO1 (oAttr 9 1) (vVar 0)) lNil)) (vC (.int 1)))) bNil))
def w4 (F : Calls) : WS := (bCons (sRet (vListR true (lCons (vMeth F 9 5 2 (vVar 0) lNil) (lCons (vON oLenO (lCons (vO1 (oAttr 9 1) (vVar 0)) lNil)) lNil)))) bNil)
def w5 (F : Calls) : WS := (bCons (sIte (vO1 oNot (vCall F 0 (lCons (vVar 1) (lCons (vMeth F 9 5 2 (vVar 0) lNil) (lCons (vO2 oSub (vON oLenO (lCons (vO1 (oAttr 9 1) (vVar 0)) lNil)) (vC (.int 1))) lNil))))) (bCons (sRais 6) bNil) bNil) (bCons (sRet (vO2 oIdxO (vO1 (oAttr 9 1) (vVar 0)) (vVar 1))) bNil))
def w6 (F : Calls) : WS := (bCons (sIte (vCmp (vVar 1) (cCons cLt (vON oLen (lCons (vVar 0) lNil)) cNil)) (bCons (sRet (vO2 oIdxL (vVar 0) (vVar 1))) bNil) bNil) (bCons (sRet (vC (.int 0))) bNil))
def w7 (F : Calls) : WS := (bCons (sRet (vO2 oMod (vO2 oAdd (vO2 oMul (vVar 0) (vC (.int 48271))) (vO2 oMul (vO2 oMul (vC (.int 7919)) (vO2 oAdd (vVar 1) (vC (.int 1)))) (vO2 oAdd (vVar 1) (vC (.int 3))))) (vC (.int 2147483647)))) bNil)
def w8 (F : Calls) : WS := (bCons (sRet (vBl (blCons true (vO1 (oIsi .int) (vVar 0)) (blCons true (vO1 oNot (vO1 (oIsi .bool) (vVar 0))) (blNil true))))) bNil)
def w9 (F : Calls) : WS := (bCons (sAssign 1 (vO2 oMulS (vC (.str (Str.ofString "letter"))) (vON oIntB (lCons (vO1 (oIsiX clss 6) (vVar 0)) lNil)))) (bCons (sFor 2 (vLst false (lCons (vO1 (oIsiX clss 1) (vVar 0)) (lCons (vO1 (oIsiX clss 2) (vVar 0)) (lCons (vO1 (oIsiX clss 3) (vVar 0)) lNil)))) (bCons (sAssign 1 (vO2 oAddS (vVar 1) (vO2 oMulS (vC (.str (Str.ofString "x"))) (vON oIntB (lCons (vVar 2) lNil))))) bNil)) (bCons (sFor 2 (vLst false (lCons (vO1 (oIsiX clss 4) (vVar 0)) (lCons (vO1 (oIsiX clss 5) (vVar 0)) (lCons (vO1 (oIsiX clss 7) (vVar 0)) lNil)))) (bCons (sAssign 1 (vO2 oAddS (vVar 1) (vO2 oMulS (vC (.str (Str.ofString "x"))) (vON oIntB (lCons (vVar 2) lNil))))) bNil)) (bCons (sRet (vO2 oMulS (vO2 oAddS (vVar 1) (vO2 oMulS (vC (.str (Str.ofString "x"))) (vON oIntB (lCons (vO1 (oIsiX clss 8) (vVar 0)) lNil)))) (vON oIntB (lCons (vO1 oIsiV (vVar 0)) lNil)))) bNil))))
def w10 (F : Calls) : WS := (bCons (sTry (bCons (sRet (vTup (lCons (vC (.str (Str.ofString "told"))) (lCons (vMeth F 9 3 5 (vVar 0) (lCons (vVar 1) lNil)) lNil)))) bNil) (hCons clss 0 2 (bCons (sRet (vTup (lCons (vC (.str (Str.ofString "refused"))) (lCons (vCall F 9 (lCons (vVar 2) lNil)) lNil)))) bNil) hNil)) bNil)
def w11 (F : Calls) : WS := (bCons (sRet (vO2 oIdxL (vLst false (lCons (vC (.str (Str.ofString "a"))) (lCons (vC (.str (Str.ofString "b"))) (lCons (vC (.int 5)) (lCons (vTup (lCons (vC (.int 1)) (lCons (vC (.str (Str.ofString "a"))) lNil))) (lCons (vTup (lCons (vC (.int 2)) (lCons (vC (.str (Str.ofString "b"))) lNil))) (lCons (vC (.str (Str.ofString ""))) (lCons (vC (.int 0)) (lCons (vTup (lCons (vC (.str (Str.ofString "a"))) (lCons (vC (.int 1)) lNil))) lNil))))))))) (vO2 oMod (vVar 0) (vC (.int 8))))) bNil)
def w12 (F : Calls) : WS := (bCons (sRet (vCompF false (xRange (lCons (vON oLenO (lCons (vVar 1) lNil)) lNil)) (tb1 2) [0, 1] (vCmp (vO2 oAdd (vVar 2) (vVar 0)) (cCons cGe (vO2 oSub (vON oLenO (lCons (vVar 1) lNil)) (vC (.int 1))) cNil)) (vVar 2))) bNil)
def w13 (F : Calls) : WS := (bCons (sAssign 4 (vMeth F 9 2 4 (vVar 0) lNil)) (bCons (sIte (vBl (blCons false (vO1 oNot (vO1 oIsiL (vVar 4))) (blCons false (vCmp (vVar 4) (cCons cNe (vCall F 12 (lCons (vVar 1) (lCons (vVar 2) lNil))) cNil)) (blNil false)))) (bCons (sRet (vC (.bool false))) bNil) bNil) (bCons (sIte (vO1 oNot (vON oAll (lCons (vComp false (xList (vVar 4)) (tb1 5) [] (vCall F 8 (lCons (vVar 5) lNil))) lNil))) (bCons (sRet (vC (.bool false))) bNil) bNil) (bCons (sExpr (vBm rcL oAppend (vVar 4) (lCons (vC (.str (Str.ofString "more"))) lNil))) (bCons (sExpr (vBm rcL oAppend (vVar 3) (lCons (vTup (lCons (vVar 4) (lCons (vON (oList false) (lCons (vVar 4) lNil)) lNil))) lNil))) (bCons (sRet (vC (.bool true))) bNil))))))
def w14 (F : Calls) : WS := (bCons (sIte (vCmp (vVar 4) (cCons cEq (vC (.int 2)) cNil)) (bCons (sRet (vC (.bool true))) bNil) bNil) (bCons (sIte (vBl (blCons true (vCmp (vVar 4) (cCons cEq (vC (.int 0)) cNil)) (blCons true (vO1 oNot (vCall F 13 (lCons (vVar 0) (lCons (vVar 1) (lCons (vVar 2) (lCons (vVar 3) lNil)))))) (blNil true)))) (bCons (sRet (vC (.bool false))) bNil) bNil) (bCons (sForX 5 (xList (vCall F 12 (lCons (vVar 1) (lCons (vVar 2) lNil)))) (bCons (sIte (vCmp (vCall F 10 (lCons (vVar 0) (lCons (vVar 5) lNil))) (cCons cNe (vTup (lCons (vC (.str (Str.ofString "told"))) (lCons (vO2 oIdxO (vVar 2) (vVar 5)) lNil))) cNil)) (bCons (sRet (vC (.bool false))) bNil) bNil) bNil)) (bCons (sIte (vCmp (vCall F 10 (lCons (vVar 0) (lCons (vON oLenO (lCons (vVar 2) lNil)) lNil))) (cCons cNe (vTup (lCons (vC (.str (Str.ofString "refused"))) (lCons (vC (.str (Str.ofString "letter"))) lNil))) cNil)) (bCons (sRet (vC (.bool false))) bNil) bNil) (bCons (sRet (vBl (blCons false (vCmp (vVar 4) (cCons cEq (vC (.int 0)) cNil)) (blCons false (vCall F 13 (lCons (vVar 0) (lCons (vVar 1) (lCons (vVar 2) (lCons (vVar 3) lNil))))) (blNil false))))) bNil)))))
def w15 (F : Calls) : WS := (bCons (sAssign 1 (vComp false (xRange (lCons (vC (.int 2)) lNil)) (tb1 13) [0] (vO2 oMod (vCall F 7 (lCons (vCall F 6 (lCons (vVar 0) (lCons (vVar 13) lNil))) (lCons (vVar 13) lNil))) (vO2 oIdxL (vLst false (lCons (vC (.int 4)) (lCons (vC (.int 21)) lNil))) (vO2 oMod (vO2 oFdiv (vCall F 6 (lCons (vVar 0) (lCons (vVar 13) lNil))) (vC (.int 64))) (vC (.int 2))))))) (bCons (sAssign 2 (vLst false (lCons (vNew F 9 1 (lCons (vO2 oIdxL (vVar 1) (vC (.int 0))) lNil)) (lCons (vNew F 9 1 (lCons (vO2 oIdxL (vVar 1) (vC (.int 1))) lNil)) lNil)))) (bCons (sAssign 3 (vLst false (lCons (vLst true lNil) (lCons (vLst true lNil) lNil)))) (bCons (sAssign 4 (vLst true lNil)) (bCons (sFor 5 (vO1 (oSl false 2 42) (vVar 0)) (bCons (sAssign 6 (vO2 oMod (vO2 oFdiv (vVar 5) (vC (.int 2))) (vC (.int 2)))) (bCons (sIte (vCmp (vO2 oMod (vVar 5) (vC (.int 2))) (cCons cEq (vC (.int 0)) cNil)) (bCons (sAssign 7 (vMeth F 9 4 3 (vO2 oIdxL (vVar 2) (vVar 6)) (lCons (vCall F 11 (lCons (vO2 oFdiv (vVar 5) (vC (.int 4))) lNil)) lNil))) (bCons (sIte (vBl (blCons false (vO1 oNot (vCall F 8 (lCons (vVar 7) lNil))) (blCons false (vCmp (vVar 7) (cCons cNe (vON oLenO (lCons (vO2 oIdxL (vVar 3) (vVar 6)) lNil)) cNil)) (blNil false)))) (bCons (sRet (vC (.bool false))) bNil) bNil) (bCons (sExpr (vBm rcL oAppend (vO2 oIdxL (vVar 3) (vVar 6)) (lCons (vCall F 11 (lCons (vO2 oFdiv (vVar 5) (vC (.int 4))) lNil)) lNil))) bNil))) (bCons (sAssign 8 (vO2 oIdxL (vVar 1) (vVar 6))) (bCons (sAssign 9 (vO2 oAdd (vO2 oSub (vO2 oSub (vON oLenO (lCons (vO2 oIdxL (vVar 3) (vVar 6)) lNil)) (vC (.int 2))) (vVar 8)) (vO2 oMod (vO2 oFdiv (vVar 5) (vC (.int 4))) (vO2 oAdd (vVar 8) (vC (.int 4)))))) (bCons (sAssign 10 (vTup (lCons (vC (.str (Str.ofString "refused"))) (lCons (vC (.str (Str.ofString "letter"))) lNil)))) (bCons (sIte (vCmp (vVar 9) (cCons cInL (vCall F 12 (lCons (vVar 8) (lCons (vO2 oIdxL (vVar 3) (vVar 6)) lNil))) cNil)) (bCons (sAssign 10 (vTup (lCons (vC (.str (Str.ofString "told"))) (lCons (vO2 oIdxO (vO2 oIdxL (vVar 3) (vVar 6)) (vVar 9)) lNil)))) bNil) bNil) (bCons (sIte (vCmp (vCall F 10 (lCons (vO2 oIdxL (vVar 2) (vVar 6)) (lCons (vVar 9) lNil))) (cCons cNe (vVar 10) cNil)) (bCons (sRet (vC (.bool false))) bNil) bNil) bNil)))))) (bCons (sForX 11 (xRange (lCons (vC (.int 2)) lNil)) (bCons (sIte (vO1 oNot (vCall F 14 (lCons (vO2 oIdxL (vVar 2) (vVar 11)) (lCons (vO2 oIdxL (vVar 1) (vVar 11)) (lCons (vO2 oIdxL (vVar 3) (vVar 11)) (lCons (vVar 4) (lCons (vO2 oMod (vO2 oFdiv (vVar 5) (vC (.int 84))) (vC (.int 3))) lNil))))))) (bCons (sRet (vC (.bool false))) bNil) bNil) bNil)) bNil)))) (bCons (sAssign 12 (vO2 oIdxL (vLst false (lCons (vC .none) (lCons (vC (.bool true)) (lCons (vC (.bool false)) (lCons (vC (.str (Str.ofString "0"))) (lCons (vLst false (lCons (vC (.int 0)) lNil)) (lCons (vTup (lCons (vC (.int 0)) lNil)) (lCons (vO1 oNeg (vC (.int 1))) lNil)))))))) (vO2 oMod (vO2 oFdiv (vCall F 6 (lCons (vVar 0) (lCons (vC (.int 1)) lNil))) (vC (.int 3))) (vC (.int 7))))) (bCons (sIte (vCmp (vCall F 10 (lCons (vO2 oIdxL (vVar 2) (vC (.int 0))) (lCons (vVar 12) lNil))) (cCons cNe (vTup (lCons (vC (.str (Str.ofString "refused"))) (lCons (vC (.str (Str.ofString "letter"))) lNil))) cNil)) (bCons (sRet (vC (.bool false))) bNil) bNil) (bCons (sRet (vCmp (vCompF false (xList (vVar 4)) (tb1 13) [] (vCmp (vO2 oIdxT (vVar 13) (vC (.int 0))) (cCons cNe (vO2 oIdxT (vVar 13) (vC (.int 1))) cNil)) (vVar 13)) (cCons cEq (vLst true lNil) cNil))) bNil))))))))
def fn0 : FnI := ⟨false, 3, 3, w0⟩
def fn1 : FnI := ⟨false, 2, 2, w1⟩
def fn2 : FnI := ⟨false, 1, 1, w2⟩
def fn3 : FnI := ⟨false, 2, 2, w3⟩
def fn4 : FnI := ⟨false, 1, 1, w4⟩
def fn5 : FnI := ⟨false, 2, 2, w5⟩
def fn6 : FnI := ⟨false, 2, 2, w6⟩
def fn7 : FnI := ⟨false, 2, 2, w7⟩
def fn8 : FnI := ⟨false, 1, 1, w8⟩
def fn9 : FnI := ⟨true, 1, 3, w9⟩
def fn10 : FnI := ⟨false, 2, 3, w10⟩
def fn11 : FnI := ⟨false, 1, 1, w11⟩
def fn12 : FnI := ⟨false, 2, 3, w12⟩
def fn13 : FnI := ⟨false, 4, 6, w13⟩
def fn14 : FnI := ⟨false, 5, 6, w14⟩
def fn15 : FnI := ⟨false, 1, 14, w15⟩
def prg : Prg := ⟨[fn0, fn1, fn2, fn3, fn4, fn5, fn6, fn7, fn8, fn9, fn10, fn11, fn12, fn13, fn14, fn15], clss, []⟩
end Ap.L04
end
section
set_option Elab.async false
set_option maxRecDepth 100000
set_option maxHeartbeats 4000000
set_option linter.unusedVariables false
namespace Ap.L04
open PySem
abbrev prog : Program := PySem.Challenge.pw_uf020020_04
def gds : List (Str × List Str) := []
def globs : List (Str × AV) := []
def nm0 : List Str := [Str.ofString "thing", Str.ofString "low", Str.ofString "high"]
def nm1 : List Str := [Str.ofString "self", Str.ofString "bound"]
def nm2 : List Str := [Str.ofString "self"]
def nm3 : List Str := [Str.ofString "self", Str.ofString "thing"]
def nm4 : List Str := [Str.ofString "self"]
def nm5 : List Str := [Str.ofString "self", Str.ofString "number"]
def nm6 : List Str := [Str.ofString "_law_script", Str.ofString "_law_k"]
def nm7 : List Str := [Str.ofString "_law_cell", Str.ofString "_law_k"]
def nm8 : List Str := [Str.ofString "_law_thing_here"]
def nm9 : List Str := [Str.ofString "_law_error", Str.ofString "_law_word_here", Str.ofString "_law_is_other"]
def nm10 : List Str := [Str.ofString "_law_post", Str.ofString "_law_number", Str.ofString "_law_error"]
def nm11 : List Str := [Str.ofString "_law_cell"]
def nm12 : List Str := [Str.ofString "_law_bound", Str.ofString "_law_things"]
def nm13 : List Str := [Str.ofString "_law_post", Str.ofString "_law_bound", Str.ofString "_law_things", Str.ofString "_law_olds", Str.ofString "_law_found"]
def nm14 : List Str := [Str.ofString "_law_post", Str.ofString "_law_bound", Str.ofString "_law_things", Str.ofString "_law_olds", Str.ofString "_law_way", Str.ofString "_law_number"]
def nm15 : List Str := [Str.ofString "_law_script", Str.ofString "_law_bounds", Str.ofString "_law_posts", Str.ofString "_law_rows", Str.ofString "_law_olds", Str.ofString "_law_cell", Str.ofString "_law_which", Str.ofString "_law_found", Str.ofString "_law_bound", Str.ofString "_law_number", Str.ofString "_law_due_here", Str.ofString "_law_k", Str.ofString "_law_odd"]
def ft0 : FnT := ⟨nm0, scAt prog.main.body 11, bdAt prog.main.body 11⟩
def ft1 : FnT := ⟨nm1, scAt (clAt prog.main.body 13) 0, bdAt (clAt prog.main.body 13) 0⟩
def ft2 : FnT := ⟨nm2, scAt (clAt prog.main.body 13) 1, bdAt (clAt prog.main.body 13) 1⟩
def ft3 : FnT := ⟨nm3, scAt (clAt prog.main.body 13) 2, bdAt (clAt prog.main.body 13) 2⟩
def ft4 : FnT := ⟨nm4, scAt (clAt prog.main.body 13) 3, bdAt (clAt prog.main.body 13) 3⟩
def ft5 : FnT := ⟨nm5, scAt (clAt prog.main.body 13) 4, bdAt (clAt prog.main.body 13) 4⟩
def ft6 : FnT := ⟨nm6, scAt prog.main.body 15, bdAt prog.main.body 15⟩
def ft7 : FnT := ⟨nm7, scAt prog.main.body 16, bdAt prog.main.body 16⟩
def ft8 : FnT := ⟨nm8, scAt prog.main.body 17, bdAt prog.main.body 17⟩
def ft9 : FnT := ⟨nm9, scAt prog.main.body 18, bdAt prog.main.body 18⟩
def ft10 : FnT := ⟨nm10, scAt prog.main.body 19, bdAt prog.main.body 19⟩
def ft11 : FnT := ⟨nm11, scAt prog.main.body 20, bdAt prog.main.body 20⟩
def ft12 : FnT := ⟨nm12, scAt prog.main.body 21, bdAt prog.main.body 21⟩
def ft13 : FnT := ⟨nm13, scAt prog.main.body 22, bdAt prog.main.body 22⟩
def ft14 : FnT := ⟨nm14, scAt prog.main.body 23, bdAt prog.main.body 23⟩
def ft15 : FnT := ⟨nm15, scAt prog.main.body 24, bdAt prog.main.body 24⟩
def tabs : Tabs := ⟨[ft0, ft1, ft2, ft3, ft4, ft5, ft6, ft7, ft8, ft9, ft10, ft11, ft12, ft13, ft14, ft15], [Str.ofString "is_among", Str.ofString "", Str.ofString "", Str.ofString "", Str.ofString "", Str.ofString "", Str.ofString "_law_at", Str.ofString "_law_mixed", Str.ofString "_law_whole", Str.ofString "_law_word", Str.ofString "_law_said", Str.ofString "_law_thing", Str.ofString "_law_due", Str.ofString "_law_there", Str.ofString "_law_stands", Str.ofString "law"], [Str.ofString "PostError", Str.ofString "BadBounds", Str.ofString "BadRing", Str.ofString "BadTexts", Str.ofString "BadStep", Str.ofString "NotNow", Str.ofString "NoLetter", Str.ofString "Safe", Str.ofString "NoLine", Str.ofString "Post"], [Str.ofString "bound", Str.ofString "things", Str.ofString "there", Str.ofString "taken", Str.ofString "posted", Str.ofString "first"], [Str.ofString "ValueError", Str.ofString "all", Str.ofString "bool", Str.ofString "int", Str.ofString "isinstance", Str.ofString "len", Str.ofString "list", Str.ofString "max", Str.ofString "range"]⟩
theorem b0 {C : Cx} (X : CxOk C tabs prg) (Y : GlobOk C globs) (Z : GDs C gds) {F : Calls} {d : Nat} (hF : SndF C prg d F) : BothB C d ft0.sc ft0.nms false (w0 F) ft0.body := by
  have v0 : ∀ pos, Both C d ft0.sc ft0.nms false (vVar 0) (.Name (Str.ofString "thing") pos) := fun _ => .var (by kernel_rfl) (by kernel_rfl) (by kernel_rfl)
  have v1 : ∀ pos, Both C d ft0.sc ft0.nms false (vVar 1) (.Name (Str.ofString "low") pos) := fun _ => .var (by kernel_rfl) (by kernel_rfl) (by kernel_rfl)
  have v2 : ∀ pos, Both C d ft0.sc ft0.nms false (vVar 2) (.Name (Str.ofString "high") pos) := fun _ => .var (by kernel_rfl) (by kernel_rfl) (by kernel_rfl)
  exact (BothB.cons (BothS.ret (Both.and (BothBl.cons (Both.isi (t := .int) X (v0 _) rfl (by kernel_rfl) (by decide +kernel) (by kernel_rfl) boot_int (by decide +kernel) (by kernel_rfl)) (BothBl.cons (Both.not (Both.isi (t := .bool) X (v0 _) rfl (by kernel_rfl) (by decide +kernel) (by kernel_rfl) boot_bool (by decide +kernel) (by kernel_rfl))) (BothBl.one (Both.cmp (v1 _) (BothC.cons cmp_le (v0 _) (BothC.one cmp_le (v2 _))) rfl)))))) BothB.nil)
theorem b1 {C : Cx} (X : CxOk C tabs prg) (Y : GlobOk C globs) (Z : GDs C gds) {F : Calls} {d : Nat} (hF : SndF C prg d F) : BothB C d ft1.sc ft1.nms false (w1 F) ft1.body := by
  have v0 : ∀ pos, Both C d ft1.sc ft1.nms false (vVar 0) (.Name (Str.ofString "self") pos) := fun _ => .var (by kernel_rfl) (by kernel_rfl) (by kernel_rfl)
  have v1 : ∀ pos, Both C d ft1.sc ft1.nms false (vVar 1) (.Name (Str.ofString "bound") pos) := fun _ => .var (by kernel_rfl) (by kernel_rfl) (by kernel_rfl)
  exact (BothB.cons (BothS.setAttr X (v0 _) (v1 _) rfl (by kernel_rfl) (by kernel_rfl)) (BothB.cons (BothS.setAttr X (v0 _) (Both.lst BothL.nil (by decide)) rfl (by kernel_rfl) (by kernel_rfl)) BothB.nil))
theorem b2 {C : Cx} (X : CxOk C tabs prg) (Y : GlobOk C globs) (Z : GDs C gds) {F : Calls} {d : Nat} (hF : SndF C prg d F) : BothB C d ft2.sc ft2.nms false (w2 F) ft2.body := by
  have v0 : ∀ pos, Both C d ft2.sc ft2.nms false (vVar 0) (.Name (Str.ofString "self") pos) := fun _ => .var (by kernel_rfl) (by kernel_rfl) (by kernel_rfl)
  exact (BothB.cons (BothS.ret (Both.bi X bok_Max2 (BothL.cons Both.int rfl (BothL.cons (Both.bin bin_sub (Both.bin bin_sub (Both.bi X bok_LenO (BothL.cons (Both.attr X (v0 _) rfl (by kernel_rfl) (fun ci h => by cases h; rfl)) rfl BothL.nil) (by decide +kernel) (by kernel_rfl) (by decide)) Both.int) (Both.attr X (v0 _) rfl (by kernel_rfl) (fun ci h => by cases h; rfl))) rfl BothL.nil)) (by decide +kernel) (by kernel_rfl) (by decide))) BothB.nil)
theorem b3 {C : Cx} (X : CxOk C tabs prg) (Y : GlobOk C globs) (Z : GDs C gds) {F : Calls} {d : Nat} (hF : SndF C prg d F) : BothB C d ft3.sc ft3.nms false (w3 F) ft3.body := by
  have v0 : ∀ pos, Both C d ft3.sc ft3.nms false (vVar 0) (.Name (Str.ofString "self") pos) := fun _ => .var (by kernel_rfl) (by kernel_rfl) (by kernel_rfl)
  have v1 : ∀ pos, Both C d ft3.sc ft3.nms false (vVar 1) (.Name (Str.ofString "thing") pos) := fun _ => .var (by kernel_rfl) (by kernel_rfl) (by kernel_rfl)
  exact (BothB.cons (BothS.expr (Both.bm bm_append (Both.attr X (v0 _) rfl (by kernel_rfl) (fun ci h => by cases h; rfl)) (BothL.cons (v1 _) rfl BothL.nil) rfl (by kernel_rfl) (by decide) (by decide)) rfl) (BothB.cons (BothS.ret (Both.bin bin_sub (Both.bi X bok_LenO (BothL.cons (Both.attr X (v0 _) rfl (by kernel_rfl) (fun ci h => by cases h; rfl)) rfl BothL.nil) (by decide +kernel) (by kernel_rfl) (by decide)) Both.int)) BothB.nil))
theorem b4 {C : Cx} (X : CxOk C tabs prg) (Y : GlobOk C globs) (Z : GDs C gds) {F : Calls} {d : Nat} (hF : SndF C prg d F) : BothB C d ft4.sc ft4.nms false (w4 F) ft4.body := by
  have v0 : ∀ pos, Both C d ft4.sc ft4.nms false (vVar 0) (.Name (Str.ofString "self") pos) := fun _ => .var (by kernel_rfl) (by kernel_rfl) (by kernel_rfl)
  exact (BothB.cons (BothS.ret (Both.listR X (BothL.cons (Both.meth X hF (v0 _) BothL.nil rfl (by kernel_rfl) (by kernel_rfl) (by decide) rfl rfl (by decide)) rfl (BothL.cons (Both.bi X bok_LenO (BothL.cons (Both.attr X (v0 _) rfl (by kernel_rfl) (fun ci h => by cases h; rfl)) rfl BothL.nil) (by decide +kernel) (by kernel_rfl) (by decide)) rfl BothL.nil)) (by kernel_rfl) (by kernel_rfl) (by decide +kernel) (by decide +kernel) (by kernel_rfl) (by kernel_rfl))) BothB.nil)
theorem b5 {C : Cx} (X : CxOk C tabs prg) (Y : GlobOk C globs) (Z : GDs C gds) {F : Calls} {d : Nat} (hF : SndF C prg d F) : BothB C d ft5.sc ft5.nms false (w5 F) ft5.body := by
  have v0 : ∀ pos, Both C d ft5.sc ft5.nms false (vVar 0) (.Name (Str.ofString "self") pos) := fun _ => .var (by kernel_rfl) (by kernel_rfl) (by kernel_rfl)
  have v1 : ∀ pos, Both C d ft5.sc ft5.nms false (vVar 1) (.Name (Str.ofString "number") pos) := fun _ => .var (by kernel_rfl) (by kernel_rfl) (by kernel_rfl)
  exact (BothB.cons (BothS.ite (Both.not (Both.call X hF (BothL.cons (v1 _) rfl (BothL.cons (Both.meth X hF (v0 _) BothL.nil rfl (by kernel_rfl) (by kernel_rfl) (by decide) rfl rfl (by decide)) rfl (BothL.cons (Both.bin bin_sub (Both.bi X bok_LenO (BothL.cons (Both.attr X (v0 _) rfl (by kernel_rfl) (fun ci h => by cases h; rfl)) rfl BothL.nil) (by decide +kernel) (by kernel_rfl) (by decide)) Both.int) rfl BothL.nil))) (by kernel_rfl) (by decide +kernel) (by kernel_rfl) (by kernel_rfl))) (BothB.cons (BothS.rais X (by kernel_rfl) (by kernel_rfl) (X.xcs 6 _ rfl rfl)) BothB.nil) BothB.nil) (BothB.cons (BothS.ret (Both.idx idx_O (Both.attr X (v0 _) rfl (by kernel_rfl) (fun ci h => by cases h; rfl)) (v1 _) fun _ _ => rfl)) BothB.nil))
theorem b6 {C : Cx} (X : CxOk C tabs prg) (Y : GlobOk C globs) (Z : GDs C gds) {F : Calls} {d : Nat} (hF : SndF C prg d F) : BothB C d ft6.sc ft6.nms false (w6 F) ft6.body := by
  have v0 : ∀ pos, Both C d ft6.sc ft6.nms false (vVar 0) (.Name (Str.ofString "_law_script") pos) := fun _ => .var (by kernel_rfl) (by kernel_rfl) (by kernel_rfl)
  have v1 : ∀ pos, Both C d ft6.sc ft6.nms false (vVar 1) (.Name (Str.ofString "_law_k") pos) := fun _ => .var (by kernel_rfl) (by kernel_rfl) (by kernel_rfl)
  exact (BothB.cons (BothS.ite (Both.cmp (v1 _) (BothC.one cmp_lt (Both.bi X bok_Len (BothL.cons (v0 _) rfl BothL.nil) (by decide +kernel) (by kernel_rfl) (by decide))) rfl) (BothB.cons (BothS.ret (Both.idx idx_L (v0 _) (v1 _) fun _ _ => rfl)) BothB.nil) BothB.nil) (BothB.cons (BothS.ret Both.int) BothB.nil))
theorem b7 {C : Cx} (X : CxOk C tabs prg) (Y : GlobOk C globs) (Z : GDs C gds) {F : Calls} {d : Nat} (hF : SndF C prg d F) : BothB C d ft7.sc ft7.nms false (w7 F) ft7.body := by
  have v0 : ∀ pos, Both C d ft7.sc ft7.nms false (vVar 0) (.Name (Str.ofString "_law_cell") pos) := fun _ => .var (by kernel_rfl) (by kernel_rfl) (by kernel_rfl)
  have v1 : ∀ pos, Both C d ft7.sc ft7.nms false (vVar 1) (.Name (Str.ofString "_law_k") pos) := fun _ => .var (by kernel_rfl) (by kernel_rfl) (by kernel_rfl)
  exact (BothB.cons (BothS.ret (Both.bin bin_mod (Both.bin bin_add (Both.bin bin_mul (v0 _) Both.int) (Both.bin bin_mul (Both.bin bin_mul Both.int (Both.bin bin_add (v1 _) Both.int)) (Both.bin bin_add (v1 _) Both.int))) Both.int)) BothB.nil)
theorem b8 {C : Cx} (X : CxOk C tabs prg) (Y : GlobOk C globs) (Z : GDs C gds) {F : Calls} {d : Nat} (hF : SndF C prg d F) : BothB C d ft8.sc ft8.nms false (w8 F) ft8.body := by
  have v0 : ∀ pos, Both C d ft8.sc ft8.nms false (vVar 0) (.Name (Str.ofString "_law_thing_here") pos) := fun _ => .var (by kernel_rfl) (by kernel_rfl) (by kernel_rfl)
  exact (BothB.cons (BothS.ret (Both.and (BothBl.cons (Both.isi (t := .int) X (v0 _) rfl (by kernel_rfl) (by decide +kernel) (by kernel_rfl) boot_int (by decide +kernel) (by kernel_rfl)) (BothBl.one (Both.not (Both.isi (t := .bool) X (v0 _) rfl (by kernel_rfl) (by decide +kernel) (by kernel_rfl) boot_bool (by decide +kernel) (by kernel_rfl))))))) BothB.nil)
theorem b9 {C : Cx} (X : CxOk C tabs prg) (Y : GlobOk C globs) (Z : GDs C gds) {F : Calls} {d : Nat} (hF : SndF C prg d F) : BothB C d ft9.sc ft9.nms true (w9 F) ft9.body := by
  have v0 : ∀ pos, Both C d ft9.sc ft9.nms true (vVar 0) (.Name (Str.ofString "_law_error") pos) := fun _ => .var (by kernel_rfl) (by kernel_rfl) (by kernel_rfl)
  have v1 : ∀ pos, Both C d ft9.sc ft9.nms true (vVar 1) (.Name (Str.ofString "_law_word_here") pos) := fun _ => .var (by kernel_rfl) (by kernel_rfl) (by kernel_rfl)
  have v2 : ∀ pos, Both C d ft9.sc ft9.nms true (vVar 2) (.Name (Str.ofString "_law_is_other") pos) := fun _ => .var (by kernel_rfl) (by kernel_rfl) (by kernel_rfl)
  exact (BothB.cons (BothS.assign (Both.bin bin_mulS (Both.str (by kernel_rfl)) (Both.bi X bok_IntB (BothL.cons (Both.isiX X (v0 _) rfl (by kernel_rfl) (by decide +kernel) (by kernel_rfl) (by kernel_rfl) (by kernel_rfl) rfl rfl) rfl BothL.nil) (by decide +kernel) (by kernel_rfl) (by decide))) rfl (by kernel_rfl)) (BothB.cons (BothS.forL (Both.lst (BothL.cons (Both.isiX X (v0 _) rfl (by kernel_rfl) (by decide +kernel) (by kernel_rfl) (by kernel_rfl) (by kernel_rfl) rfl rfl) rfl (BothL.cons (Both.isiX X (v0 _) rfl (by kernel_rfl) (by decide +kernel) (by kernel_rfl) (by kernel_rfl) (by kernel_rfl) rfl rfl) rfl (BothL.cons (Both.isiX X (v0 _) rfl (by kernel_rfl) (by decide +kernel) (by kernel_rfl) (by kernel_rfl) (by kernel_rfl) rfl rfl) rfl BothL.nil))) (by decide)) (BothB.cons (BothS.assign (Both.bin bin_addS (v1 _) (Both.bin bin_mulS (Both.str (by kernel_rfl)) (Both.bi X bok_IntB (BothL.cons (v2 _) rfl BothL.nil) (by decide +kernel) (by kernel_rfl) (by decide)))) rfl (by kernel_rfl)) BothB.nil) rfl (by kernel_rfl)) (BothB.cons (BothS.forL (Both.lst (BothL.cons (Both.isiX X (v0 _) rfl (by kernel_rfl) (by decide +kernel) (by kernel_rfl) (by kernel_rfl) (by kernel_rfl) rfl rfl) rfl (BothL.cons (Both.isiX X (v0 _) rfl (by kernel_rfl) (by decide +kernel) (by kernel_rfl) (by kernel_rfl) (by kernel_rfl) rfl rfl) rfl (BothL.cons (Both.isiX X (v0 _) rfl (by kernel_rfl) (by decide +kernel) (by kernel_rfl) (by kernel_rfl) (by kernel_rfl) rfl rfl) rfl BothL.nil))) (by decide)) (BothB.cons (BothS.assign (Both.bin bin_addS (v1 _) (Both.bin bin_mulS (Both.str (by kernel_rfl)) (Both.bi X bok_IntB (BothL.cons (v2 _) rfl BothL.nil) (by decide +kernel) (by kernel_rfl) (by decide)))) rfl (by kernel_rfl)) BothB.nil) rfl (by kernel_rfl)) (BothB.cons (BothS.ret (Both.bin bin_mulS (Both.bin bin_addS (v1 _) (Both.bin bin_mulS (Both.str (by kernel_rfl)) (Both.bi X bok_IntB (BothL.cons (Both.isiX X (v0 _) rfl (by kernel_rfl) (by decide +kernel) (by kernel_rfl) (by kernel_rfl) (by kernel_rfl) rfl rfl) rfl BothL.nil) (by decide +kernel) (by kernel_rfl) (by decide)))) (Both.bi X bok_IntB (BothL.cons (Both.isiV X (v0 _) rfl (by kernel_rfl) (by decide +kernel) (by kernel_rfl) boot_ValueError (by decide +kernel) (by kernel_rfl)) rfl BothL.nil) (by decide +kernel) (by kernel_rfl) (by decide)))) BothB.nil))))
theorem b10 {C : Cx} (X : CxOk C tabs prg) (Y : GlobOk C globs) (Z : GDs C gds) {F : Calls} {d : Nat} (hF : SndF C prg d F) : BothB C d ft10.sc ft10.nms false (w10 F) ft10.body := by
  have v0 : ∀ pos, Both C d ft10.sc ft10.nms false (vVar 0) (.Name (Str.ofString "_law_post") pos) := fun _ => .var (by kernel_rfl) (by kernel_rfl) (by kernel_rfl)
  have v1 : ∀ pos, Both C d ft10.sc ft10.nms false (vVar 1) (.Name (Str.ofString "_law_number") pos) := fun _ => .var (by kernel_rfl) (by kernel_rfl) (by kernel_rfl)
  have v2q : ∀ pos, Both C d ft10.sc ft10.nms true (vVar 2) (.Name (Str.ofString "_law_error") pos) := fun _ => .var (by kernel_rfl) (by kernel_rfl) (by kernel_rfl)
  exact (BothB.cons (BothS.tryE X (BothB.cons (BothS.ret (Both.tup (BothL.cons (Both.str (by kernel_rfl)) rfl (BothL.cons (Both.meth X hF (v0 _) (BothL.cons (v1 _) rfl BothL.nil) rfl (by kernel_rfl) (by kernel_rfl) (by decide) rfl rfl (by decide)) rfl BothL.nil)) (by decide))) BothB.nil) (BothH.cons (by kernel_rfl) (by kernel_rfl) rfl rfl (by kernel_rfl) (by kernel_rfl) (BothB.cons (BothS.ret (Both.tup (BothL.cons (Both.str (by kernel_rfl)) rfl (BothL.cons (Both.call X hF (BothL.cons (v2q _) rfl BothL.nil) (by kernel_rfl) (by decide +kernel) (by kernel_rfl) (by kernel_rfl)) rfl BothL.nil)) (by decide))) BothB.nil) BothH.nil)) BothB.nil)
theorem b11 {C : Cx} (X : CxOk C tabs prg) (Y : GlobOk C globs) (Z : GDs C gds) {F : Calls} {d : Nat} (hF : SndF C prg d F) : BothB C d ft11.sc ft11.nms false (w11 F) ft11.body := by
  have v0 : ∀ pos, Both C d ft11.sc ft11.nms false (vVar 0) (.Name (Str.ofString "_law_cell") pos) := fun _ => .var (by kernel_rfl) (by kernel_rfl) (by kernel_rfl)
  exact (BothB.cons (BothS.ret (Both.idx idx_L (Both.lst (BothL.cons (Both.str (by kernel_rfl)) rfl (BothL.cons (Both.str (by kernel_rfl)) rfl (BothL.cons Both.int rfl (BothL.cons (Both.tup (BothL.cons Both.int rfl (BothL.cons (Both.str (by kernel_rfl)) rfl BothL.nil)) (by decide)) rfl (BothL.cons (Both.tup (BothL.cons Both.int rfl (BothL.cons (Both.str (by kernel_rfl)) rfl BothL.nil)) (by decide)) rfl (BothL.cons (Both.str (by kernel_rfl)) rfl (BothL.cons Both.int rfl (BothL.cons (Both.tup (BothL.cons (Both.str (by kernel_rfl)) rfl (BothL.cons Both.int rfl BothL.nil)) (by decide)) rfl BothL.nil)))))))) (by decide)) (Both.bin bin_mod (v0 _) Both.int) fun _ _ => rfl)) BothB.nil)
theorem b12 {C : Cx} (X : CxOk C tabs prg) (Y : GlobOk C globs) (Z : GDs C gds) {F : Calls} {d : Nat} (hF : SndF C prg d F) : BothB C d ft12.sc ft12.nms false (w12 F) ft12.body := by
  have v1 : ∀ pos, Both C d ft12.sc ft12.nms false (vVar 1) (.Name (Str.ofString "_law_things") pos) := fun _ => .var (by kernel_rfl) (by kernel_rfl) (by kernel_rfl)
  exact (BothB.cons (BothS.ret (Both.compF (nms' := ft12.nms ++ [(Str.ofString "_law_number")]) (SrcE.range X (BothL.cons (Both.bi X bok_LenO (BothL.cons (v1 _) rfl BothL.nil) (by decide +kernel) (by kernel_rfl) (by decide)) rfl BothL.nil) (by kernel_rfl) (by decide +kernel) (by kernel_rfl)) (Both.cmp (Both.bin bin_add (Both.var (by kernel_rfl) (by kernel_rfl) (by kernel_rfl)) (Both.var (by kernel_rfl) (by kernel_rfl) (by kernel_rfl))) (BothC.one cmp_ge (Both.bin bin_sub (Both.bi X bok_LenO (BothL.cons (Both.var (by kernel_rfl) (by kernel_rfl) (by kernel_rfl)) rfl BothL.nil) (by decide +kernel) (by kernel_rfl) (by decide)) Both.int)) rfl) (Both.var (by kernel_rfl) (by kernel_rfl) (by kernel_rfl)) (TgtOk.one (by kernel_rfl) (by kernel_rfl) (by kernel_rfl)) (by kernel_rfl) rfl)) BothB.nil)
theorem b13 {C : Cx} (X : CxOk C tabs prg) (Y : GlobOk C globs) (Z : GDs C gds) {F : Calls} {d : Nat} (hF : SndF C prg d F) : BothB C d ft13.sc ft13.nms false (w13 F) ft13.body := by
  have v0 : ∀ pos, Both C d ft13.sc ft13.nms false (vVar 0) (.Name (Str.ofString "_law_post") pos) := fun _ => .var (by kernel_rfl) (by kernel_rfl) (by kernel_rfl)
  have v1 : ∀ pos, Both C d ft13.sc ft13.nms false (vVar 1) (.Name (Str.ofString "_law_bound") pos) := fun _ => .var (by kernel_rfl) (by kernel_rfl) (by kernel_rfl)
  have v2 : ∀ pos, Both C d ft13.sc ft13.nms false (vVar 2) (.Name (Str.ofString "_law_things") pos) := fun _ => .var (by kernel_rfl) (by kernel_rfl) (by kernel_rfl)
  have v3 : ∀ pos, Both C d ft13.sc ft13.nms false (vVar 3) (.Name (Str.ofString "_law_olds") pos) := fun _ => .var (by kernel_rfl) (by kernel_rfl) (by kernel_rfl)
  have v4 : ∀ pos, Both C d ft13.sc ft13.nms false (vVar 4) (.Name (Str.ofString "_law_found") pos) := fun _ => .var (by kernel_rfl) (by kernel_rfl) (by kernel_rfl)
  exact (BothB.cons (BothS.assign (Both.meth X hF (v0 _) BothL.nil rfl (by kernel_rfl) (by kernel_rfl) (by decide) rfl rfl (by decide)) rfl (by kernel_rfl)) (BothB.cons (BothS.ite (Both.or (BothBl.cons (Both.not (isi_L X (v4 _) rfl (by kernel_rfl) (by decide +kernel) (by kernel_rfl) boot_list (by decide +kernel) (by kernel_rfl))) (BothBl.one (Both.cmp (v4 _) (BothC.one cmp_ne (Both.call X hF (BothL.cons (v1 _) rfl (BothL.cons (v2 _) rfl BothL.nil)) (by kernel_rfl) (by decide +kernel) (by kernel_rfl) (by kernel_rfl))) rfl)))) (BothB.cons (BothS.ret Both.bool) BothB.nil) BothB.nil) (BothB.cons (BothS.ite (Both.not (Both.bi X bok_All (BothL.cons (Both.comp (nms' := ft13.nms ++ [(Str.ofString "_law_number")]) (SrcE.list (v4 _)) (Both.call X hF (BothL.cons (Both.var (by kernel_rfl) (by kernel_rfl) (by kernel_rfl)) rfl BothL.nil) (by kernel_rfl) (by decide +kernel) (by kernel_rfl) (by kernel_rfl)) (TgtOk.one (by kernel_rfl) (by kernel_rfl) (by kernel_rfl)) (by kernel_rfl) rfl) rfl BothL.nil) (by decide +kernel) (by kernel_rfl) (by decide))) (BothB.cons (BothS.ret Both.bool) BothB.nil) BothB.nil) (BothB.cons (BothS.expr (Both.bm bm_append (v4 _) (BothL.cons (Both.str (by kernel_rfl)) rfl BothL.nil) rfl (by kernel_rfl) (by decide) (by decide)) rfl) (BothB.cons (BothS.expr (Both.bm bm_append (v3 _) (BothL.cons (Both.tup (BothL.cons (v4 _) rfl (BothL.cons (Both.bi X bok_List (BothL.cons (v4 _) rfl BothL.nil) (by decide +kernel) (by kernel_rfl) (by decide)) rfl BothL.nil)) (by decide)) rfl BothL.nil) rfl (by kernel_rfl) (by decide) (by decide)) rfl) (BothB.cons (BothS.ret Both.bool) BothB.nil))))))
theorem b14 {C : Cx} (X : CxOk C tabs prg) (Y : GlobOk C globs) (Z : GDs C gds) {F : Calls} {d : Nat} (hF : SndF C prg d F) : BothB C d ft14.sc ft14.nms false (w14 F) ft14.body := by
  have v0 : ∀ pos, Both C d ft14.sc ft14.nms false (vVar 0) (.Name (Str.ofString "_law_post") pos) := fun _ => .var (by kernel_rfl) (by kernel_rfl) (by kernel_rfl)
  have v1 : ∀ pos, Both C d ft14.sc ft14.nms false (vVar 1) (.Name (Str.ofString "_law_bound") pos) := fun _ => .var (by kernel_rfl) (by kernel_rfl) (by kernel_rfl)
  have v2 : ∀ pos, Both C d ft14.sc ft14.nms false (vVar 2) (.Name (Str.ofString "_law_things") pos) := fun _ => .var (by kernel_rfl) (by kernel_rfl) (by kernel_rfl)
  have v3 : ∀ pos, Both C d ft14.sc ft14.nms false (vVar 3) (.Name (Str.ofString "_law_olds") pos) := fun _ => .var (by kernel_rfl) (by kernel_rfl) (by kernel_rfl)
  have v4 : ∀ pos, Both C d ft14.sc ft14.nms false (vVar 4) (.Name (Str.ofString "_law_way") pos) := fun _ => .var (by kernel_rfl) (by kernel_rfl) (by kernel_rfl)
  have v5 : ∀ pos, Both C d ft14.sc ft14.nms false (vVar 5) (.Name (Str.ofString "_law_number") pos) := fun _ => .var (by kernel_rfl) (by kernel_rfl) (by kernel_rfl)
  exact (BothB.cons (BothS.ite (Both.cmp (v4 _) (BothC.one cmp_eq Both.int) rfl) (BothB.cons (BothS.ret Both.bool) BothB.nil) BothB.nil) (BothB.cons (BothS.ite (Both.and (BothBl.cons (Both.cmp (v4 _) (BothC.one cmp_eq Both.int) rfl) (BothBl.one (Both.not (Both.call X hF (BothL.cons (v0 _) rfl (BothL.cons (v1 _) rfl (BothL.cons (v2 _) rfl (BothL.cons (v3 _) rfl BothL.nil)))) (by kernel_rfl) (by decide +kernel) (by kernel_rfl) (by kernel_rfl)))))) (BothB.cons (BothS.ret Both.bool) BothB.nil) BothB.nil) (BothB.cons (BothS.forX (SrcE.list (Both.call X hF (BothL.cons (v1 _) rfl (BothL.cons (v2 _) rfl BothL.nil)) (by kernel_rfl) (by decide +kernel) (by kernel_rfl) (by kernel_rfl))) (BothB.cons (BothS.ite (Both.cmp (Both.call X hF (BothL.cons (v0 _) rfl (BothL.cons (v5 _) rfl BothL.nil)) (by kernel_rfl) (by decide +kernel) (by kernel_rfl) (by kernel_rfl)) (BothC.one cmp_ne (Both.tup (BothL.cons (Both.str (by kernel_rfl)) rfl (BothL.cons (Both.idx idx_O (v2 _) (v5 _) fun _ _ => rfl) rfl BothL.nil)) (by decide))) rfl) (BothB.cons (BothS.ret Both.bool) BothB.nil) BothB.nil) BothB.nil) rfl (by kernel_rfl)) (BothB.cons (BothS.ite (Both.cmp (Both.call X hF (BothL.cons (v0 _) rfl (BothL.cons (Both.bi X bok_LenO (BothL.cons (v2 _) rfl BothL.nil) (by decide +kernel) (by kernel_rfl) (by decide)) rfl BothL.nil)) (by kernel_rfl) (by decide +kernel) (by kernel_rfl) (by kernel_rfl)) (BothC.one cmp_ne (Both.tup (BothL.cons (Both.str (by kernel_rfl)) rfl (BothL.cons (Both.str (by kernel_rfl)) rfl BothL.nil)) (by decide))) rfl) (BothB.cons (BothS.ret Both.bool) BothB.nil) BothB.nil) (BothB.cons (BothS.ret (Both.or (BothBl.cons (Both.cmp (v4 _) (BothC.one cmp_eq Both.int) rfl) (BothBl.one (Both.call X hF (BothL.cons (v0 _) rfl (BothL.cons (v1 _) rfl (BothL.cons (v2 _) rfl (BothL.cons (v3 _) rfl BothL.nil)))) (by kernel_rfl) (by decide +kernel) (by kernel_rfl) (by kernel_rfl)))))) BothB.nil)))))
theorem b15 {C : Cx} (X : CxOk C tabs prg) (Y : GlobOk C globs) (Z : GDs C gds) {F : Calls} {d : Nat} (hF : SndF C prg d F) : BothB C d ft15.sc ft15.nms false (w15 F) ft15.body := by
  have v0 : ∀ pos, Both C d ft15.sc ft15.nms false (vVar 0) (.Name (Str.ofString "_law_script") pos) := fun _ => .var (by kernel_rfl) (by kernel_rfl) (by kernel_rfl)
  have v1 : ∀ pos, Both C d ft15.sc ft15.nms false (vVar 1) (.Name (Str.ofString "_law_bounds") pos) := fun _ => .var (by kernel_rfl) (by kernel_rfl) (by kernel_rfl)
  have v2 : ∀ pos, Both C d ft15.sc ft15.nms false (vVar 2) (.Name (Str.ofString "_law_posts") pos) := fun _ => .var (by kernel_rfl) (by kernel_rfl) (by kernel_rfl)
  have v3 : ∀ pos, Both C d ft15.sc ft15.nms false (vVar 3) (.Name (Str.ofString "_law_rows") pos) := fun _ => .var (by kernel_rfl) (by kernel_rfl) (by kernel_rfl)
  have v4 : ∀ pos, Both C d ft15.sc ft15.nms false (vVar 4) (.Name (Str.ofString "_law_olds") pos) := fun _ => .var (by kernel_rfl) (by kernel_rfl) (by kernel_rfl)
  have v5 : ∀ pos, Both C d ft15.sc ft15.nms false (vVar 5) (.Name (Str.ofString "_law_cell") pos) := fun _ => .var (by kernel_rfl) (by kernel_rfl) (by kernel_rfl)
  have v6 : ∀ pos, Both C d ft15.sc ft15.nms false (vVar 6) (.Name (Str.ofString "_law_which") pos) := fun _ => .var (by kernel_rfl) (by kernel_rfl) (by kernel_rfl)
  have v7 : ∀ pos, Both C d ft15.sc ft15.nms false (vVar 7) (.Name (Str.ofString "_law_found") pos) := fun _ => .var (by kernel_rfl) (by kernel_rfl) (by kernel_rfl)
  have v8 : ∀ pos, Both C d ft15.sc ft15.nms false (vVar 8) (.Name (Str.ofString "_law_bound") pos) := fun _ => .var (by kernel_rfl) (by kernel_rfl) (by kernel_rfl)
  have v9 : ∀ pos, Both C d ft15.sc ft15.nms false (vVar 9) (.Name (Str.ofString "_law_number") pos) := fun _ => .var (by kernel_rfl) (by kernel_rfl) (by kernel_rfl)
  have v10 : ∀ pos, Both C d ft15.sc ft15.nms false (vVar 10) (.Name (Str.ofString "_law_due_here") pos) := fun _ => .var (by kernel_rfl) (by kernel_rfl) (by kernel_rfl)
  have v11 : ∀ pos, Both C d ft15.sc ft15.nms false (vVar 11) (.Name (Str.ofString "_law_k") pos) := fun _ => .var (by kernel_rfl) (by kernel_rfl) (by kernel_rfl)
  have v12 : ∀ pos, Both C d ft15.sc ft15.nms false (vVar 12) (.Name (Str.ofString "_law_odd") pos) := fun _ => .var (by kernel_rfl) (by kernel_rfl) (by kernel_rfl)
  exact (BothB.cons (BothS.assignComp (nms' := ft15.nms ++ [(Str.ofString "_law_k")]) (SrcE.range X (BothL.cons Both.int rfl BothL.nil) (by kernel_rfl) (by decide +kernel) (by kernel_rfl)) (Both.bin bin_mod (Both.call X hF (BothL.cons (Both.call X hF (BothL.cons (Both.var (by kernel_rfl) (by kernel_rfl) (by kernel_rfl)) rfl (BothL.cons (Both.var (by kernel_rfl) (by kernel_rfl) (by kernel_rfl)) rfl BothL.nil)) (by kernel_rfl) (by decide +kernel) (by kernel_rfl) (by kernel_rfl)) rfl (BothL.cons (Both.var (by kernel_rfl) (by kernel_rfl) (by kernel_rfl)) rfl BothL.nil)) (by kernel_rfl) (by decide +kernel) (by kernel_rfl) (by kernel_rfl)) (Both.idx idx_L (Both.lst (BothL.cons Both.int rfl (BothL.cons Both.int rfl BothL.nil)) (by decide)) (Both.bin bin_mod (Both.bin bin_fdiv (Both.call X hF (BothL.cons (Both.var (by kernel_rfl) (by kernel_rfl) (by kernel_rfl)) rfl (BothL.cons (Both.var (by kernel_rfl) (by kernel_rfl) (by kernel_rfl)) rfl BothL.nil)) (by kernel_rfl) (by decide +kernel) (by kernel_rfl) (by kernel_rfl)) Both.int) Both.int) fun _ _ => rfl)) (TgtOk.one (by kernel_rfl) (by kernel_rfl) (by kernel_rfl)) (by kernel_rfl) rfl (by kernel_rfl) (by kernel_rfl)) (BothB.cons (BothS.assign (Both.lst (BothL.cons (Both.new X hF (BothL.cons (Both.idx idx_L (v1 _) Both.int fun _ _ => rfl) rfl BothL.nil) (by kernel_rfl) (by kernel_rfl) rfl rfl (by decide)) rfl (BothL.cons (Both.new X hF (BothL.cons (Both.idx idx_L (v1 _) Both.int fun _ _ => rfl) rfl BothL.nil) (by kernel_rfl) (by kernel_rfl) rfl rfl (by decide)) rfl BothL.nil)) (by decide)) rfl (by kernel_rfl)) (BothB.cons (BothS.assign (Both.lst (BothL.cons (Both.lst BothL.nil (by decide)) rfl (BothL.cons (Both.lst BothL.nil (by decide)) rfl BothL.nil)) (by decide)) rfl (by kernel_rfl)) (BothB.cons (BothS.assign (Both.lst BothL.nil (by decide)) rfl (by kernel_rfl)) (BothB.cons (BothS.forL (Both.slice rfl rfl (v0 _)) (BothB.cons (BothS.assign (Both.bin bin_mod (Both.bin bin_fdiv (v5 _) Both.int) Both.int) rfl (by kernel_rfl)) (BothB.cons (BothS.ite (Both.cmp (Both.bin bin_mod (v5 _) Both.int) (BothC.one cmp_eq Both.int) rfl) (BothB.cons (BothS.assign (Both.meth X hF (Both.idx idx_L (v2 _) (v6 _) fun _ _ => rfl) (BothL.cons (Both.call X hF (BothL.cons (Both.bin bin_fdiv (v5 _) Both.int) rfl BothL.nil) (by kernel_rfl) (by decide +kernel) (by kernel_rfl) (by kernel_rfl)) rfl BothL.nil) rfl (by kernel_rfl) (by kernel_rfl) (by decide) rfl rfl (by decide)) rfl (by kernel_rfl)) (BothB.cons (BothS.ite (Both.or (BothBl.cons (Both.not (Both.call X hF (BothL.cons (v7 _) rfl BothL.nil) (by kernel_rfl) (by decide +kernel) (by kernel_rfl) (by kernel_rfl))) (BothBl.one (Both.cmp (v7 _) (BothC.one cmp_ne (Both.bi X bok_LenO (BothL.cons (Both.idx idx_L (v3 _) (v6 _) fun _ _ => rfl) rfl BothL.nil) (by decide +kernel) (by kernel_rfl) (by decide))) rfl)))) (BothB.cons (BothS.ret Both.bool) BothB.nil) BothB.nil) (BothB.cons (BothS.expr (Both.bm bm_append (Both.idx idx_L (v3 _) (v6 _) fun _ _ => rfl) (BothL.cons (Both.call X hF (BothL.cons (Both.bin bin_fdiv (v5 _) Both.int) rfl BothL.nil) (by kernel_rfl) (by decide +kernel) (by kernel_rfl) (by kernel_rfl)) rfl BothL.nil) rfl (by kernel_rfl) (by decide) (by decide)) rfl) BothB.nil))) (BothB.cons (BothS.assign (Both.idx idx_L (v1 _) (v6 _) fun _ _ => rfl) rfl (by kernel_rfl)) (BothB.cons (BothS.assign (Both.bin bin_add (Both.bin bin_sub (Both.bin bin_sub (Both.bi X bok_LenO (BothL.cons (Both.idx idx_L (v3 _) (v6 _) fun _ _ => rfl) rfl BothL.nil) (by decide +kernel) (by kernel_rfl) (by decide)) Both.int) (v8 _)) (Both.bin bin_mod (Both.bin bin_fdiv (v5 _) Both.int) (Both.bin bin_add (v8 _) Both.int))) rfl (by kernel_rfl)) (BothB.cons (BothS.assign (Both.tup (BothL.cons (Both.str (by kernel_rfl)) rfl (BothL.cons (Both.str (by kernel_rfl)) rfl BothL.nil)) (by decide)) rfl (by kernel_rfl)) (BothB.cons (BothS.ite (Both.cmp (v9 _) (BothC.one cmp_inL (Both.call X hF (BothL.cons (v8 _) rfl (BothL.cons (Both.idx idx_L (v3 _) (v6 _) fun _ _ => rfl) rfl BothL.nil)) (by kernel_rfl) (by decide +kernel) (by kernel_rfl) (by kernel_rfl))) rfl) (BothB.cons (BothS.assign (Both.tup (BothL.cons (Both.str (by kernel_rfl)) rfl (BothL.cons (Both.idx idx_O (Both.idx idx_L (v3 _) (v6 _) fun _ _ => rfl) (v9 _) fun _ _ => rfl) rfl BothL.nil)) (by decide)) rfl (by kernel_rfl)) BothB.nil) BothB.nil) (BothB.cons (BothS.ite (Both.cmp (Both.call X hF (BothL.cons (Both.idx idx_L (v2 _) (v6 _) fun _ _ => rfl) rfl (BothL.cons (v9 _) rfl BothL.nil)) (by kernel_rfl) (by decide +kernel) (by kernel_rfl) (by kernel_rfl)) (BothC.one cmp_ne (v10 _)) rfl) (BothB.cons (BothS.ret Both.bool) BothB.nil) BothB.nil) BothB.nil)))))) (BothB.cons (BothS.forX (SrcE.range X (BothL.cons Both.int rfl BothL.nil) (by kernel_rfl) (by decide +kernel) (by kernel_rfl)) (BothB.cons (BothS.ite (Both.not (Both.call X hF (BothL.cons (Both.idx idx_L (v2 _) (v11 _) fun _ _ => rfl) rfl (BothL.cons (Both.idx idx_L (v1 _) (v11 _) fun _ _ => rfl) rfl (BothL.cons (Both.idx idx_L (v3 _) (v11 _) fun _ _ => rfl) rfl (BothL.cons (v4 _) rfl (BothL.cons (Both.bin bin_mod (Both.bin bin_fdiv (v5 _) Both.int) Both.int) rfl BothL.nil))))) (by kernel_rfl) (by decide +kernel) (by kernel_rfl) (by kernel_rfl))) (BothB.cons (BothS.ret Both.bool) BothB.nil) BothB.nil) BothB.nil) rfl (by kernel_rfl)) BothB.nil))) rfl (by kernel_rfl)) (BothB.cons (BothS.assign (Both.idx idx_L (Both.lst (BothL.cons Both.none rfl (BothL.cons Both.bool rfl (BothL.cons Both.bool rfl (BothL.cons (Both.str (by kernel_rfl)) rfl (BothL.cons (Both.lst (BothL.cons Both.int rfl BothL.nil) (by decide)) rfl (BothL.cons (Both.tup (BothL.cons Both.int rfl BothL.nil) (by decide)) rfl (BothL.cons (Both.neg Both.int) rfl BothL.nil))))))) (by decide)) (Both.bin bin_mod (Both.bin bin_fdiv (Both.call X hF (BothL.cons (v0 _) rfl (BothL.cons Both.int rfl BothL.nil)) (by kernel_rfl) (by decide +kernel) (by kernel_rfl) (by kernel_rfl)) Both.int) Both.int) fun _ _ => rfl) rfl (by kernel_rfl)) (BothB.cons (BothS.ite (Both.cmp (Both.call X hF (BothL.cons (Both.idx idx_L (v2 _) Both.int fun _ _ => rfl) rfl (BothL.cons (v12 _) rfl BothL.nil)) (by kernel_rfl) (by decide +kernel) (by kernel_rfl) (by kernel_rfl)) (BothC.one cmp_ne (Both.tup (BothL.cons (Both.str (by kernel_rfl)) rfl (BothL.cons (Both.str (by kernel_rfl)) rfl BothL.nil)) (by decide))) rfl) (BothB.cons (BothS.ret Both.bool) BothB.nil) BothB.nil) (BothB.cons (BothS.ret (Both.cmp (Both.compF (nms' := ft15.nms ++ [(Str.ofString "_law_old")]) (SrcE.list (v4 _)) (Both.cmp (Both.idx idx_T (Both.var (by kernel_rfl) (by kernel_rfl) (by kernel_rfl)) Both.int fun _ _ => rfl) (BothC.one cmp_ne (Both.idx idx_T (Both.var (by kernel_rfl) (by kernel_rfl) (by kernel_rfl)) Both.int fun _ _ => rfl)) rfl) (Both.var (by kernel_rfl) (by kernel_rfl) (by kernel_rfl)) (TgtOk.one (by kernel_rfl) (by kernel_rfl) (by kernel_rfl)) (by kernel_rfl) rfl) (BothC.one cmp_eq (Both.lst BothL.nil (by decide))) rfl)) BothB.nil))))))))
end Ap.L04
end
section
set_option Elab.async false
set_option maxRecDepth 100000
set_option maxHeartbeats 1000000
set_option linter.unusedVariables false
set_option linter.unusedSimpArgs false
namespace Ap.L04
open PySem
variable {d : Nat} {σ σ' : St} {Q : PQ} {E : PE}
theorem at_wp {ns : List Int} (k : Nat) {i : Int} (hi : i = k) (h : Q (.int (ns.getD k 0)) σ) : wpF prg (d + 1) 6 [.ilist (ns.map .int), .int i] σ Q E := by
  subst hi
  refine wpF_in (fi := fn6) rfl rfl ?_
  simp -implicitDefEqProofs only [fn6, w6, e_lookV, e_var, e_c, e_nil, e_cons, e_kEs1, e_kEs2, e_tup, e_kTup, e_lst, e_kLst, e_o2, e_kO1, e_kO2, e_o1, e_kU, e_oN, e_kN, e_neg, e_not, e_bl, e_kBool, e_blNil, e_blCons, e_onT, e_kBl, e_brBl1, e_brBl0, e_brBlN, e_cmp, e_kCmp, e_cNil, e_cCons, e_kCh1, e_kCh2n, e_kCh20, e_kCh21, e_call, e_kCall, e_new, e_kNew, e_kInit, e_meth, e_kMeth2, s_assign, s_kAsg, s_kE, s_setAttr, s_kSA1, s_expr, s_kExp, s_ret, s_kRet, s_ite, s_brS1, s_brS0, s_rais, s_try, s_kTry, s_brH1, s_kH, s_for, s_bOne, b_nil, b_cons, b_kSeqN, b_kSeqR, f_kFnN, f_kFnR, f_eFn, l_nil, l_cons, l_kFLN, d_set0, d_setS, d_get0, d_getS, d_bt, d_bf, d_nt, d_nf, d_gi, o_add, o_sub, o_mul, o_mod, o_fdiv, o_addS, o_mulS, o_idxT, o_sl, c_lt, c_le, c_ge, c_eqI, x_len, x_max2, x_intB, x_isiV, x_for, e_lstO, e_bm, e_kBm2, s_forX, s_kForX, e_xRange, e_xList, e_kComp, e_kCmpE0, e_mkLi, e_mkLo, x_kXR1, x_kXLi, x_bCmp, d_kCompF, d_bCmpF, d_kCF1, d_kCF0, d_kSome, d_listR, d_kListR2, List.map_cons, List.map_nil, List.cons_append, List.nil_append, List.replicate_succ, List.replicate_zero, Nat.reduceSub, Nat.reduceAdd, Int.reduceAbs, Nat.reduceLT, Nat.reducePow, Nat.reduceLeDiff, Int.reduceLE, Int.reduceLT, Int.le_refl, ne_eq, Int.reduceEq, not_false_eq_true, true_and, and_true, decide_true, decide_false, Int.reduceToNat, Int.toNat_zero, Int.toNat_one, List.getElem?_cons_succ, List.getElem?_cons_zero, if_true, if_false, Bool.false_eq_true, List.length_map, Int.ofNat_lt]
  rw [List.getD_eq_getElem?_getD] at h
  by_cases hk : k < ns.length
  · simp -implicitDefEqProofs only [hk, e_lookV, e_var, e_c, e_nil, e_cons, e_kEs1, e_kEs2, e_tup, e_kTup, e_lst, e_kLst, e_o2, e_kO1, e_kO2, e_o1, e_kU, e_oN, e_kN, e_neg, e_not, e_bl, e_kBool, e_blNil, e_blCons, e_onT, e_kBl, e_brBl1, e_brBl0, e_brBlN, e_cmp, e_kCmp, e_cNil, e_cCons, e_kCh1, e_kCh2n, e_kCh20, e_kCh21, e_call, e_kCall, e_new, e_kNew, e_kInit, e_meth, e_kMeth2, s_assign, s_kAsg, s_kE, s_setAttr, s_kSA1, s_expr, s_kExp, s_ret, s_kRet, s_ite, s_brS1, s_brS0, s_rais, s_try, s_kTry, s_brH1, s_kH, s_for, s_bOne, b_nil, b_cons, b_kSeqN, b_kSeqR, f_kFnN, f_kFnR, f_eFn, l_nil, l_cons, l_kFLN, d_set0, d_setS, d_get0, d_getS, d_bt, d_bf, d_nt, d_nf, d_gi, o_add, o_sub, o_mul, o_mod, o_fdiv, o_addS, o_mulS, o_idxT, o_sl, c_lt, c_le, c_ge, c_eqI, x_len, x_max2, x_intB, x_isiV, x_for, e_lstO, e_bm, e_kBm2, s_forX, s_kForX, e_xRange, e_xList, e_kComp, e_kCmpE0, e_mkLi, e_mkLo, x_kXR1, x_kXLi, x_bCmp, d_kCompF, d_bCmpF, d_kCF1, d_kCF0, d_kSome, d_listR, d_kListR2, List.map_cons, List.map_nil, List.cons_append, List.nil_append, List.replicate_succ, List.replicate_zero, Nat.reduceSub, Nat.reduceAdd, Int.reduceAbs, Nat.reduceLT, Nat.reducePow, Nat.reduceLeDiff, Int.reduceLE, Int.reduceLT, Int.le_refl, ne_eq, Int.reduceEq, not_false_eq_true, true_and, and_true, decide_true, decide_false, Int.reduceToNat, Int.toNat_zero, Int.toNat_one, List.getElem?_cons_succ, List.getElem?_cons_zero, if_true, if_false, Bool.false_eq_true, i_l, Int.toNat_natCast, List.getElem?_map, List.getElem?_eq_getElem hk, Option.map_some]
    rw [List.getElem?_eq_getElem hk] at h
    exact ⟨Int.natCast_nonneg k, h⟩
  · simp -implicitDefEqProofs only [hk, e_lookV, e_var, e_c, e_nil, e_cons, e_kEs1, e_kEs2, e_tup, e_kTup, e_lst, e_kLst, e_o2, e_kO1, e_kO2, e_o1, e_kU, e_oN, e_kN, e_neg, e_not, e_bl, e_kBool, e_blNil, e_blCons, e_onT, e_kBl, e_brBl1, e_brBl0, e_brBlN, e_cmp, e_kCmp, e_cNil, e_cCons, e_kCh1, e_kCh2n, e_kCh20, e_kCh21, e_call, e_kCall, e_new, e_kNew, e_kInit, e_meth, e_kMeth2, s_assign, s_kAsg, s_kE, s_setAttr, s_kSA1, s_expr, s_kExp, s_ret, s_kRet, s_ite, s_brS1, s_brS0, s_rais, s_try, s_kTry, s_brH1, s_kH, s_for, s_bOne, b_nil, b_cons, b_kSeqN, b_kSeqR, f_kFnN, f_kFnR, f_eFn, l_nil, l_cons, l_kFLN, d_set0, d_setS, d_get0, d_getS, d_bt, d_bf, d_nt, d_nf, d_gi, o_add, o_sub, o_mul, o_mod, o_fdiv, o_addS, o_mulS, o_idxT, o_sl, c_lt, c_le, c_ge, c_eqI, x_len, x_max2, x_intB, x_isiV, x_for, e_lstO, e_bm, e_kBm2, s_forX, s_kForX, e_xRange, e_xList, e_kComp, e_kCmpE0, e_mkLi, e_mkLo, x_kXR1, x_kXLi, x_bCmp, d_kCompF, d_bCmpF, d_kCF1, d_kCF0, d_kSome, d_listR, d_kListR2, List.map_cons, List.map_nil, List.cons_append, List.nil_append, List.replicate_succ, List.replicate_zero, Nat.reduceSub, Nat.reduceAdd, Int.reduceAbs, Nat.reduceLT, Nat.reducePow, Nat.reduceLeDiff, Int.reduceLE, Int.reduceLT, Int.le_refl, ne_eq, Int.reduceEq, not_false_eq_true, true_and, and_true, decide_true, decide_false, Int.reduceToNat, Int.toNat_zero, Int.toNat_one, List.getElem?_cons_succ, List.getElem?_cons_zero, if_true, if_false, Bool.false_eq_true]
    rw [List.getElem?_eq_none (Nat.le_of_not_lt hk)] at h
    exact h
theorem mixed_wp {c k : Int} (hk : k.natAbs < 100) (h : Q (.int ((c * 48271 + 7919 * (k + 1) * (k + 3)).fmod 2147483647)) σ) : wpF prg (d + 1) 7 [.int c, .int k] σ Q E := by
  refine wpF_in (fi := fn7) rfl rfl ?_
  simp -implicitDefEqProofs only [fn7, w7, e_lookV, e_var, e_c, e_nil, e_cons, e_kEs1, e_kEs2, e_tup, e_kTup, e_lst, e_kLst, e_o2, e_kO1, e_kO2, e_o1, e_kU, e_oN, e_kN, e_neg, e_not, e_bl, e_kBool, e_blNil, e_blCons, e_onT, e_kBl, e_brBl1, e_brBl0, e_brBlN, e_cmp, e_kCmp, e_cNil, e_cCons, e_kCh1, e_kCh2n, e_kCh20, e_kCh21, e_call, e_kCall, e_new, e_kNew, e_kInit, e_meth, e_kMeth2, s_assign, s_kAsg, s_kE, s_setAttr, s_kSA1, s_expr, s_kExp, s_ret, s_kRet, s_ite, s_brS1, s_brS0, s_rais, s_try, s_kTry, s_brH1, s_kH, s_for, s_bOne, b_nil, b_cons, b_kSeqN, b_kSeqR, f_kFnN, f_kFnR, f_eFn, l_nil, l_cons, l_kFLN, d_set0, d_setS, d_get0, d_getS, d_bt, d_bf, d_nt, d_nf, d_gi, o_add, o_sub, o_mul, o_mod, o_fdiv, o_addS, o_mulS, o_idxT, o_sl, c_lt, c_le, c_ge, c_eqI, x_len, x_max2, x_intB, x_isiV, x_for, e_lstO, e_bm, e_kBm2, s_forX, s_kForX, e_xRange, e_xList, e_kComp, e_kCmpE0, e_mkLi, e_mkLo, x_kXR1, x_kXLi, x_bCmp, d_kCompF, d_bCmpF, d_kCF1, d_kCF0, d_kSome, d_listR, d_kListR2, List.map_cons, List.map_nil, List.cons_append, List.nil_append, List.replicate_succ, List.replicate_zero, Nat.reduceSub, Nat.reduceAdd, Int.reduceAbs, Nat.reduceLT, Nat.reducePow, Nat.reduceLeDiff, Int.reduceLE, Int.reduceLT, Int.le_refl, ne_eq, Int.reduceEq, not_false_eq_true, true_and, and_true, decide_true, decide_false, Int.reduceToNat, Int.toNat_zero, Int.toNat_one, List.getElem?_cons_succ, List.getElem?_cons_zero, if_true, if_false, Bool.false_eq_true, or_true]
  exact ⟨.inl (by decide), .inr (by omega), h⟩
theorem whole_wp {v : AV} (hv : plainV v = true) (h : Q (.bool (isInt v)) σ) : wpF prg (d + 1) 8 [v] σ Q E := by
  refine wpF_in (fi := fn8) rfl rfl ?_
  simp -implicitDefEqProofs only [fn8, w8, e_lookV, e_var, e_c, e_nil, e_cons, e_kEs1, e_kEs2, e_tup, e_kTup, e_lst, e_kLst, e_o2, e_kO1, e_kO2, e_o1, e_kU, e_oN, e_kN, e_neg, e_not, e_bl, e_kBool, e_blNil, e_blCons, e_onT, e_kBl, e_brBl1, e_brBl0, e_brBlN, e_cmp, e_kCmp, e_cNil, e_cCons, e_kCh1, e_kCh2n, e_kCh20, e_kCh21, e_call, e_kCall, e_new, e_kNew, e_kInit, e_meth, e_kMeth2, s_assign, s_kAsg, s_kE, s_setAttr, s_kSA1, s_expr, s_kExp, s_ret, s_kRet, s_ite, s_brS1, s_brS0, s_rais, s_try, s_kTry, s_brH1, s_kH, s_for, s_bOne, b_nil, b_cons, b_kSeqN, b_kSeqR, f_kFnN, f_kFnR, f_eFn, l_nil, l_cons, l_kFLN, d_set0, d_setS, d_get0, d_getS, d_bt, d_bf, d_nt, d_nf, d_gi, o_add, o_sub, o_mul, o_mod, o_fdiv, o_addS, o_mulS, o_idxT, o_sl, c_lt, c_le, c_ge, c_eqI, x_len, x_max2, x_intB, x_isiV, x_for, e_lstO, e_bm, e_kBm2, s_forX, s_kForX, e_xRange, e_xList, e_kComp, e_kCmpE0, e_mkLi, e_mkLo, x_kXR1, x_kXLi, x_bCmp, d_kCompF, d_bCmpF, d_kCF1, d_kCF0, d_kSome, d_listR, d_kListR2, List.map_cons, List.map_nil, List.cons_append, List.nil_append, List.replicate_succ, List.replicate_zero, Nat.reduceSub, Nat.reduceAdd, Int.reduceAbs, Nat.reduceLT, Nat.reducePow, Nat.reduceLeDiff, Int.reduceLE, Int.reduceLT, Int.le_refl, ne_eq, Int.reduceEq, not_false_eq_true, true_and, and_true, decide_true, decide_false, Int.reduceToNat, Int.toNat_zero, Int.toNat_one, List.getElem?_cons_succ, List.getElem?_cons_zero, if_true, if_false, Bool.false_eq_true, x_isi hv]
  cases v <;> first | exact Bool.noConfusion hv | (simp -implicitDefEqProofs only [t_ii, t_bi, t_ib, t_bb, e_lookV, e_var, e_c, e_nil, e_cons, e_kEs1, e_kEs2, e_tup, e_kTup, e_lst, e_kLst, e_o2, e_kO1, e_kO2, e_o1, e_kU, e_oN, e_kN, e_neg, e_not, e_bl, e_kBool, e_blNil, e_blCons, e_onT, e_kBl, e_brBl1, e_brBl0, e_brBlN, e_cmp, e_kCmp, e_cNil, e_cCons, e_kCh1, e_kCh2n, e_kCh20, e_kCh21, e_call, e_kCall, e_new, e_kNew, e_kInit, e_meth, e_kMeth2, s_assign, s_kAsg, s_kE, s_setAttr, s_kSA1, s_expr, s_kExp, s_ret, s_kRet, s_ite, s_brS1, s_brS0, s_rais, s_try, s_kTry, s_brH1, s_kH, s_for, s_bOne, b_nil, b_cons, b_kSeqN, b_kSeqR, f_kFnN, f_kFnR, f_eFn, l_nil, l_cons, l_kFLN, d_set0, d_setS, d_get0, d_getS, d_bt, d_bf, d_nt, d_nf, d_gi, o_add, o_sub, o_mul, o_mod, o_fdiv, o_addS, o_mulS, o_idxT, o_sl, c_lt, c_le, c_ge, c_eqI, x_len, x_max2, x_intB, x_isiV, x_for, e_lstO, e_bm, e_kBm2, s_forX, s_kForX, e_xRange, e_xList, e_kComp, e_kCmpE0, e_mkLi, e_mkLo, x_kXR1, x_kXLi, x_bCmp, d_kCompF, d_bCmpF, d_kCF1, d_kCF0, d_kSome, d_listR, d_kListR2, List.map_cons, List.map_nil, List.cons_append, List.nil_append, List.replicate_succ, List.replicate_zero, Nat.reduceSub, Nat.reduceAdd, Int.reduceAbs, Nat.reduceLT, Nat.reducePow, Nat.reduceLeDiff, Int.reduceLE, Int.reduceLT, Int.le_refl, ne_eq, Int.reduceEq, not_false_eq_true, true_and, and_true, decide_true, decide_false, Int.reduceToNat, Int.toNat_zero, Int.toNat_one, List.getElem?_cons_succ, List.getElem?_cons_zero, if_true, if_false, Bool.false_eq_true, x_isi (v := .int _) rfl, x_isi (v := .bool _) rfl] ; exact h) | exact h
theorem among_wp {v : AV} {lo hi : Int} (hv : plainV v = true) (h : Q (.bool (amongB v lo hi)) σ) : wpF prg (d + 1) 0 [v, .int lo, .int hi] σ Q E := by
  refine wpF_in (fi := fn0) rfl rfl ?_
  simp -implicitDefEqProofs only [fn0, w0, e_lookV, e_var, e_c, e_nil, e_cons, e_kEs1, e_kEs2, e_tup, e_kTup, e_lst, e_kLst, e_o2, e_kO1, e_kO2, e_o1, e_kU, e_oN, e_kN, e_neg, e_not, e_bl, e_kBool, e_blNil, e_blCons, e_onT, e_kBl, e_brBl1, e_brBl0, e_brBlN, e_cmp, e_kCmp, e_cNil, e_cCons, e_kCh1, e_kCh2n, e_kCh20, e_kCh21, e_call, e_kCall, e_new, e_kNew, e_kInit, e_meth, e_kMeth2, s_assign, s_kAsg, s_kE, s_setAttr, s_kSA1, s_expr, s_kExp, s_ret, s_kRet, s_ite, s_brS1, s_brS0, s_rais, s_try, s_kTry, s_brH1, s_kH, s_for, s_bOne, b_nil, b_cons, b_kSeqN, b_kSeqR, f_kFnN, f_kFnR, f_eFn, l_nil, l_cons, l_kFLN, d_set0, d_setS, d_get0, d_getS, d_bt, d_bf, d_nt, d_nf, d_gi, o_add, o_sub, o_mul, o_mod, o_fdiv, o_addS, o_mulS, o_idxT, o_sl, c_lt, c_le, c_ge, c_eqI, x_len, x_max2, x_intB, x_isiV, x_for, e_lstO, e_bm, e_kBm2, s_forX, s_kForX, e_xRange, e_xList, e_kComp, e_kCmpE0, e_mkLi, e_mkLo, x_kXR1, x_kXLi, x_bCmp, d_kCompF, d_bCmpF, d_kCF1, d_kCF0, d_kSome, d_listR, d_kListR2, List.map_cons, List.map_nil, List.cons_append, List.nil_append, List.replicate_succ, List.replicate_zero, Nat.reduceSub, Nat.reduceAdd, Int.reduceAbs, Nat.reduceLT, Nat.reducePow, Nat.reduceLeDiff, Int.reduceLE, Int.reduceLT, Int.le_refl, ne_eq, Int.reduceEq, not_false_eq_true, true_and, and_true, decide_true, decide_false, Int.reduceToNat, Int.toNat_zero, Int.toNat_one, List.getElem?_cons_succ, List.getElem?_cons_zero, if_true, if_false, Bool.false_eq_true, x_isi hv]
  cases v with
  | int i =>
    simp -implicitDefEqProofs only [t_ii, t_bi, t_ib, t_bb, e_lookV, e_var, e_c, e_nil, e_cons, e_kEs1, e_kEs2, e_tup, e_kTup, e_lst, e_kLst, e_o2, e_kO1, e_kO2, e_o1, e_kU, e_oN, e_kN, e_neg, e_not, e_bl, e_kBool, e_blNil, e_blCons, e_onT, e_kBl, e_brBl1, e_brBl0, e_brBlN, e_cmp, e_kCmp, e_cNil, e_cCons, e_kCh1, e_kCh2n, e_kCh20, e_kCh21, e_call, e_kCall, e_new, e_kNew, e_kInit, e_meth, e_kMeth2, s_assign, s_kAsg, s_kE, s_setAttr, s_kSA1, s_expr, s_kExp, s_ret, s_kRet, s_ite, s_brS1, s_brS0, s_rais, s_try, s_kTry, s_brH1, s_kH, s_for, s_bOne, b_nil, b_cons, b_kSeqN, b_kSeqR, f_kFnN, f_kFnR, f_eFn, l_nil, l_cons, l_kFLN, d_set0, d_setS, d_get0, d_getS, d_bt, d_bf, d_nt, d_nf, d_gi, o_add, o_sub, o_mul, o_mod, o_fdiv, o_addS, o_mulS, o_idxT, o_sl, c_lt, c_le, c_ge, c_eqI, x_len, x_max2, x_intB, x_isiV, x_for, e_lstO, e_bm, e_kBm2, s_forX, s_kForX, e_xRange, e_xList, e_kComp, e_kCmpE0, e_mkLi, e_mkLo, x_kXR1, x_kXLi, x_bCmp, d_kCompF, d_bCmpF, d_kCF1, d_kCF0, d_kSome, d_listR, d_kListR2, List.map_cons, List.map_nil, List.cons_append, List.nil_append, List.replicate_succ, List.replicate_zero, Nat.reduceSub, Nat.reduceAdd, Int.reduceAbs, Nat.reduceLT, Nat.reducePow, Nat.reduceLeDiff, Int.reduceLE, Int.reduceLT, Int.le_refl, ne_eq, Int.reduceEq, not_false_eq_true, true_and, and_true, decide_true, decide_false, Int.reduceToNat, Int.toNat_zero, Int.toNat_one, List.getElem?_cons_succ, List.getElem?_cons_zero, if_true, if_false, Bool.false_eq_true, x_isi (v := .int _) rfl]
    unfold amongB at h
    by_cases h1 : lo ≤ i
    · simp -implicitDefEqProofs only [h1, e_lookV, e_var, e_c, e_nil, e_cons, e_kEs1, e_kEs2, e_tup, e_kTup, e_lst, e_kLst, e_o2, e_kO1, e_kO2, e_o1, e_kU, e_oN, e_kN, e_neg, e_not, e_bl, e_kBool, e_blNil, e_blCons, e_onT, e_kBl, e_brBl1, e_brBl0, e_brBlN, e_cmp, e_kCmp, e_cNil, e_cCons, e_kCh1, e_kCh2n, e_kCh20, e_kCh21, e_call, e_kCall, e_new, e_kNew, e_kInit, e_meth, e_kMeth2, s_assign, s_kAsg, s_kE, s_setAttr, s_kSA1, s_expr, s_kExp, s_ret, s_kRet, s_ite, s_brS1, s_brS0, s_rais, s_try, s_kTry, s_brH1, s_kH, s_for, s_bOne, b_nil, b_cons, b_kSeqN, b_kSeqR, f_kFnN, f_kFnR, f_eFn, l_nil, l_cons, l_kFLN, d_set0, d_setS, d_get0, d_getS, d_bt, d_bf, d_nt, d_nf, d_gi, o_add, o_sub, o_mul, o_mod, o_fdiv, o_addS, o_mulS, o_idxT, o_sl, c_lt, c_le, c_ge, c_eqI, x_len, x_max2, x_intB, x_isiV, x_for, e_lstO, e_bm, e_kBm2, s_forX, s_kForX, e_xRange, e_xList, e_kComp, e_kCmpE0, e_mkLi, e_mkLo, x_kXR1, x_kXLi, x_bCmp, d_kCompF, d_bCmpF, d_kCF1, d_kCF0, d_kSome, d_listR, d_kListR2, List.map_cons, List.map_nil, List.cons_append, List.nil_append, List.replicate_succ, List.replicate_zero, Nat.reduceSub, Nat.reduceAdd, Int.reduceAbs, Nat.reduceLT, Nat.reducePow, Nat.reduceLeDiff, Int.reduceLE, Int.reduceLT, Int.le_refl, ne_eq, Int.reduceEq, not_false_eq_true, true_and, and_true, decide_true, decide_false, Int.reduceToNat, Int.toNat_zero, Int.toNat_one, List.getElem?_cons_succ, List.getElem?_cons_zero, if_true, if_false, Bool.false_eq_true]
      simp only [h1, decide_true, Bool.true_and] at h
      exact h
    · simp -implicitDefEqProofs only [h1, e_lookV, e_var, e_c, e_nil, e_cons, e_kEs1, e_kEs2, e_tup, e_kTup, e_lst, e_kLst, e_o2, e_kO1, e_kO2, e_o1, e_kU, e_oN, e_kN, e_neg, e_not, e_bl, e_kBool, e_blNil, e_blCons, e_onT, e_kBl, e_brBl1, e_brBl0, e_brBlN, e_cmp, e_kCmp, e_cNil, e_cCons, e_kCh1, e_kCh2n, e_kCh20, e_kCh21, e_call, e_kCall, e_new, e_kNew, e_kInit, e_meth, e_kMeth2, s_assign, s_kAsg, s_kE, s_setAttr, s_kSA1, s_expr, s_kExp, s_ret, s_kRet, s_ite, s_brS1, s_brS0, s_rais, s_try, s_kTry, s_brH1, s_kH, s_for, s_bOne, b_nil, b_cons, b_kSeqN, b_kSeqR, f_kFnN, f_kFnR, f_eFn, l_nil, l_cons, l_kFLN, d_set0, d_setS, d_get0, d_getS, d_bt, d_bf, d_nt, d_nf, d_gi, o_add, o_sub, o_mul, o_mod, o_fdiv, o_addS, o_mulS, o_idxT, o_sl, c_lt, c_le, c_ge, c_eqI, x_len, x_max2, x_intB, x_isiV, x_for, e_lstO, e_bm, e_kBm2, s_forX, s_kForX, e_xRange, e_xList, e_kComp, e_kCmpE0, e_mkLi, e_mkLo, x_kXR1, x_kXLi, x_bCmp, d_kCompF, d_bCmpF, d_kCF1, d_kCF0, d_kSome, d_listR, d_kListR2, List.map_cons, List.map_nil, List.cons_append, List.nil_append, List.replicate_succ, List.replicate_zero, Nat.reduceSub, Nat.reduceAdd, Int.reduceAbs, Nat.reduceLT, Nat.reducePow, Nat.reduceLeDiff, Int.reduceLE, Int.reduceLT, Int.le_refl, ne_eq, Int.reduceEq, not_false_eq_true, true_and, and_true, decide_true, decide_false, Int.reduceToNat, Int.toNat_zero, Int.toNat_one, List.getElem?_cons_succ, List.getElem?_cons_zero, if_true, if_false, Bool.false_eq_true]
      simp only [h1, decide_false, Bool.false_and] at h
      exact h
  | bool b =>
    simp -implicitDefEqProofs only [t_ii, t_bi, t_ib, t_bb, e_lookV, e_var, e_c, e_nil, e_cons, e_kEs1, e_kEs2, e_tup, e_kTup, e_lst, e_kLst, e_o2, e_kO1, e_kO2, e_o1, e_kU, e_oN, e_kN, e_neg, e_not, e_bl, e_kBool, e_blNil, e_blCons, e_onT, e_kBl, e_brBl1, e_brBl0, e_brBlN, e_cmp, e_kCmp, e_cNil, e_cCons, e_kCh1, e_kCh2n, e_kCh20, e_kCh21, e_call, e_kCall, e_new, e_kNew, e_kInit, e_meth, e_kMeth2, s_assign, s_kAsg, s_kE, s_setAttr, s_kSA1, s_expr, s_kExp, s_ret, s_kRet, s_ite, s_brS1, s_brS0, s_rais, s_try, s_kTry, s_brH1, s_kH, s_for, s_bOne, b_nil, b_cons, b_kSeqN, b_kSeqR, f_kFnN, f_kFnR, f_eFn, l_nil, l_cons, l_kFLN, d_set0, d_setS, d_get0, d_getS, d_bt, d_bf, d_nt, d_nf, d_gi, o_add, o_sub, o_mul, o_mod, o_fdiv, o_addS, o_mulS, o_idxT, o_sl, c_lt, c_le, c_ge, c_eqI, x_len, x_max2, x_intB, x_isiV, x_for, e_lstO, e_bm, e_kBm2, s_forX, s_kForX, e_xRange, e_xList, e_kComp, e_kCmpE0, e_mkLi, e_mkLo, x_kXR1, x_kXLi, x_bCmp, d_kCompF, d_bCmpF, d_kCF1, d_kCF0, d_kSome, d_listR, d_kListR2, List.map_cons, List.map_nil, List.cons_append, List.nil_append, List.replicate_succ, List.replicate_zero, Nat.reduceSub, Nat.reduceAdd, Int.reduceAbs, Nat.reduceLT, Nat.reducePow, Nat.reduceLeDiff, Int.reduceLE, Int.reduceLT, Int.le_refl, ne_eq, Int.reduceEq, not_false_eq_true, true_and, and_true, decide_true, decide_false, Int.reduceToNat, Int.toNat_zero, Int.toNat_one, List.getElem?_cons_succ, List.getElem?_cons_zero, if_true, if_false, Bool.false_eq_true, x_isi (v := .bool _) rfl]
    exact h
  | obj a => cases hv
  | exn a => cases hv
  | _ => exact h
abbrev Po (b : Int) (t : Nat) : AObj := .inst 9 [(0, .int b), (1, .obj t)]
theorem init_wp {a : Nat} {b : Int} (h0 : σ a = some (.inst 9 [])) (h : ∀ t σ', σ t = Option.none → t ≠ a → σ' a = some (Po b t) → σ' t = some (.list []) → (∀ c, c ≠ a → c ≠ t → σ' c = σ c) → Q .none σ') : wpF prg (d + 1) 1 [.obj a, .int b] σ Q E := by
  refine wpF_in (fi := fn1) rfl rfl ?_
  simp -implicitDefEqProofs only [fn1, w1, e_lookV, e_var, e_c, e_nil, e_cons, e_kEs1, e_kEs2, e_tup, e_kTup, e_lst, e_kLst, e_o2, e_kO1, e_kO2, e_o1, e_kU, e_oN, e_kN, e_neg, e_not, e_bl, e_kBool, e_blNil, e_blCons, e_onT, e_kBl, e_brBl1, e_brBl0, e_brBlN, e_cmp, e_kCmp, e_cNil, e_cCons, e_kCh1, e_kCh2n, e_kCh20, e_kCh21, e_call, e_kCall, e_new, e_kNew, e_kInit, e_meth, e_kMeth2, s_assign, s_kAsg, s_kE, s_setAttr, s_kSA1, s_expr, s_kExp, s_ret, s_kRet, s_ite, s_brS1, s_brS0, s_rais, s_try, s_kTry, s_brH1, s_kH, s_for, s_bOne, b_nil, b_cons, b_kSeqN, b_kSeqR, f_kFnN, f_kFnR, f_eFn, l_nil, l_cons, l_kFLN, d_set0, d_setS, d_get0, d_getS, d_bt, d_bf, d_nt, d_nf, d_gi, o_add, o_sub, o_mul, o_mod, o_fdiv, o_addS, o_mulS, o_idxT, o_sl, c_lt, c_le, c_ge, c_eqI, x_len, x_max2, x_intB, x_isiV, x_for, e_lstO, e_bm, e_kBm2, s_forX, s_kForX, e_xRange, e_xList, e_kComp, e_kCmpE0, e_mkLi, e_mkLo, x_kXR1, x_kXLi, x_bCmp, d_kCompF, d_bCmpF, d_kCF1, d_kCF0, d_kSome, d_listR, d_kListR2, List.map_cons, List.map_nil, List.cons_append, List.nil_append, List.replicate_succ, List.replicate_zero, Nat.reduceSub, Nat.reduceAdd, Int.reduceAbs, Nat.reduceLT, Nat.reducePow, Nat.reduceLeDiff, Int.reduceLE, Int.reduceLT, Int.le_refl, ne_eq, Int.reduceEq, not_false_eq_true, true_and, and_true, decide_true, decide_false, Int.reduceToNat, Int.toNat_zero, Int.toNat_one, List.getElem?_cons_succ, List.getElem?_cons_zero, if_true, if_false, Bool.false_eq_true, x_setA h0 (f := 0) (by decide : (0 : Nat) < 100)]
  rw [show ∀ v : AV, putF 0 v [] = [(0, v)] from fun _ => rfl]
  intro t ht
  have ta : t ≠ a := fun q => by rw [q, upd_self'] at ht; cases ht
  rw [x_setA (by rw [upd_ne' _ _ (Ne.symm ta)]; exact upd_self' _ _ _) (h' := ?hh)]
  case hh => exact Nat.le_of_ble_eq_true rfl
  rw [show ∀ v x : AV, putF 1 v [(0, x)] = [(0, x), (1, v)] from fun _ _ => rfl]
  simp -implicitDefEqProofs only [e_lookV, e_var, e_c, e_nil, e_cons, e_kEs1, e_kEs2, e_tup, e_kTup, e_lst, e_kLst, e_o2, e_kO1, e_kO2, e_o1, e_kU, e_oN, e_kN, e_neg, e_not, e_bl, e_kBool, e_blNil, e_blCons, e_onT, e_kBl, e_brBl1, e_brBl0, e_brBlN, e_cmp, e_kCmp, e_cNil, e_cCons, e_kCh1, e_kCh2n, e_kCh20, e_kCh21, e_call, e_kCall, e_new, e_kNew, e_kInit, e_meth, e_kMeth2, s_assign, s_kAsg, s_kE, s_setAttr, s_kSA1, s_expr, s_kExp, s_ret, s_kRet, s_ite, s_brS1, s_brS0, s_rais, s_try, s_kTry, s_brH1, s_kH, s_for, s_bOne, b_nil, b_cons, b_kSeqN, b_kSeqR, f_kFnN, f_kFnR, f_eFn, l_nil, l_cons, l_kFLN, d_set0, d_setS, d_get0, d_getS, d_bt, d_bf, d_nt, d_nf, d_gi, o_add, o_sub, o_mul, o_mod, o_fdiv, o_addS, o_mulS, o_idxT, o_sl, c_lt, c_le, c_ge, c_eqI, x_len, x_max2, x_intB, x_isiV, x_for, e_lstO, e_bm, e_kBm2, s_forX, s_kForX, e_xRange, e_xList, e_kComp, e_kCmpE0, e_mkLi, e_mkLo, x_kXR1, x_kXLi, x_bCmp, d_kCompF, d_bCmpF, d_kCF1, d_kCF0, d_kSome, d_listR, d_kListR2, List.map_cons, List.map_nil, List.cons_append, List.nil_append, List.replicate_succ, List.replicate_zero, Nat.reduceSub, Nat.reduceAdd, Int.reduceAbs, Nat.reduceLT, Nat.reducePow, Nat.reduceLeDiff, Int.reduceLE, Int.reduceLT, Int.le_refl, ne_eq, Int.reduceEq, not_false_eq_true, true_and, and_true, decide_true, decide_false, Int.reduceToNat, Int.toNat_zero, Int.toNat_one, List.getElem?_cons_succ, List.getElem?_cons_zero, if_true, if_false, Bool.false_eq_true]
  refine h t _ (by rw [upd_ne' _ _ ta] at ht; exact ht) ta (upd_self' _ _ _) ?_ ?_
  · rw [upd_ne' _ _ ta]; exact upd_self' _ _ _
  · intro c h1 h2
    rw [upd_ne' _ _ h1, upd_ne' _ _ h2, upd_ne' _ _ h1]
def fstB (b : Int) (L : List AV) : Int := if (L.length : Int) - 1 - b > 0 then (L.length : Int) - 1 - b else 0
theorem a0 {b : Int} {t : Nat} : lookF [(0, AV.int b), (1, .obj t)] 0 = some (.int b) := rfl
theorem a1 {b : Int} {t : Nat} : lookF [(0, AV.int b), (1, .obj t)] 1 = some (.obj t) := rfl
theorem first_wp {a t : Nat} {b : Int} {L : List AV} (h1 : σ a = some (Po b t)) (h2 : σ t = some (.list L)) (h : Q (.int (fstB b L)) σ) : wpF prg (d + 1) 2 [.obj a] σ Q E := by
  refine wpF_in (fi := fn2) rfl rfl ?_
  simp -implicitDefEqProofs only [fn2, w2, e_lookV, e_var, e_c, e_nil, e_cons, e_kEs1, e_kEs2, e_tup, e_kTup, e_lst, e_kLst, e_o2, e_kO1, e_kO2, e_o1, e_kU, e_oN, e_kN, e_neg, e_not, e_bl, e_kBool, e_blNil, e_blCons, e_onT, e_kBl, e_brBl1, e_brBl0, e_brBlN, e_cmp, e_kCmp, e_cNil, e_cCons, e_kCh1, e_kCh2n, e_kCh20, e_kCh21, e_call, e_kCall, e_new, e_kNew, e_kInit, e_meth, e_kMeth2, s_assign, s_kAsg, s_kE, s_setAttr, s_kSA1, s_expr, s_kExp, s_ret, s_kRet, s_ite, s_brS1, s_brS0, s_rais, s_try, s_kTry, s_brH1, s_kH, s_for, s_bOne, b_nil, b_cons, b_kSeqN, b_kSeqR, f_kFnN, f_kFnR, f_eFn, l_nil, l_cons, l_kFLN, d_set0, d_setS, d_get0, d_getS, d_bt, d_bf, d_nt, d_nf, d_gi, o_add, o_sub, o_mul, o_mod, o_fdiv, o_addS, o_mulS, o_idxT, o_sl, c_lt, c_le, c_ge, c_eqI, x_len, x_max2, x_intB, x_isiV, x_for, e_lstO, e_bm, e_kBm2, s_forX, s_kForX, e_xRange, e_xList, e_kComp, e_kCmpE0, e_mkLi, e_mkLo, x_kXR1, x_kXLi, x_bCmp, d_kCompF, d_bCmpF, d_kCF1, d_kCF0, d_kSome, d_listR, d_kListR2, List.map_cons, List.map_nil, List.cons_append, List.nil_append, List.replicate_succ, List.replicate_zero, Nat.reduceSub, Nat.reduceAdd, Int.reduceAbs, Nat.reduceLT, Nat.reducePow, Nat.reduceLeDiff, Int.reduceLE, Int.reduceLT, Int.le_refl, ne_eq, Int.reduceEq, not_false_eq_true, true_and, and_true, decide_true, decide_false, Int.reduceToNat, Int.toNat_zero, Int.toNat_one, List.getElem?_cons_succ, List.getElem?_cons_zero, if_true, if_false, Bool.false_eq_true, x_attr h1 a0, x_attr h1 a1, x_lenO h2]
  exact h
theorem posted_wp {a t : Nat} {b : Int} {L : List AV} {v : AV} (h1 : σ a = some (Po b t)) (h2 : σ t = some (.list L)) (hl : L.length ≤ 1000) (h : Q (.int L.length) (upd σ t (.list (L ++ [v])))) : wpF prg (d + 1) 3 [.obj a, v] σ Q E := by
  refine wpF_in (fi := fn3) rfl rfl ?_
  have ta : a ≠ t := fun q => by rw [q, h2] at h1; cases h1
  have h3 : upd σ t (.list (L ++ [v])) a = some (Po b t) := by rw [upd_ne' _ _ ta]; exact h1
  simp -implicitDefEqProofs only [fn3, w3, e_lookV, e_var, e_c, e_nil, e_cons, e_kEs1, e_kEs2, e_tup, e_kTup, e_lst, e_kLst, e_o2, e_kO1, e_kO2, e_o1, e_kU, e_oN, e_kN, e_neg, e_not, e_bl, e_kBool, e_blNil, e_blCons, e_onT, e_kBl, e_brBl1, e_brBl0, e_brBlN, e_cmp, e_kCmp, e_cNil, e_cCons, e_kCh1, e_kCh2n, e_kCh20, e_kCh21, e_call, e_kCall, e_new, e_kNew, e_kInit, e_meth, e_kMeth2, s_assign, s_kAsg, s_kE, s_setAttr, s_kSA1, s_expr, s_kExp, s_ret, s_kRet, s_ite, s_brS1, s_brS0, s_rais, s_try, s_kTry, s_brH1, s_kH, s_for, s_bOne, b_nil, b_cons, b_kSeqN, b_kSeqR, f_kFnN, f_kFnR, f_eFn, l_nil, l_cons, l_kFLN, d_set0, d_setS, d_get0, d_getS, d_bt, d_bf, d_nt, d_nf, d_gi, o_add, o_sub, o_mul, o_mod, o_fdiv, o_addS, o_mulS, o_idxT, o_sl, c_lt, c_le, c_ge, c_eqI, x_len, x_max2, x_intB, x_isiV, x_for, e_lstO, e_bm, e_kBm2, s_forX, s_kForX, e_xRange, e_xList, e_kComp, e_kCmpE0, e_mkLi, e_mkLo, x_kXR1, x_kXLi, x_bCmp, d_kCompF, d_bCmpF, d_kCF1, d_kCF0, d_kSome, d_listR, d_kListR2, List.map_cons, List.map_nil, List.cons_append, List.nil_append, List.replicate_succ, List.replicate_zero, Nat.reduceSub, Nat.reduceAdd, Int.reduceAbs, Nat.reduceLT, Nat.reducePow, Nat.reduceLeDiff, Int.reduceLE, Int.reduceLT, Int.le_refl, ne_eq, Int.reduceEq, not_false_eq_true, true_and, and_true, decide_true, decide_false, Int.reduceToNat, Int.toNat_zero, Int.toNat_one, List.getElem?_cons_succ, List.getElem?_cons_zero, if_true, if_false, Bool.false_eq_true, x_attr h1 a1, x_kBm (rc := rcL) (v := .obj t) (σ := σ) ⟨_, _, rfl, h2⟩, x_append h2 (show L.length ≤ 1000000 by omega), x_attr h3 a1, x_lenO (upd_self' σ t _)]
  rw [List.length_append, show (((L.length + [v].length : Nat) : Int) - 1) = L.length by simp only [List.length_cons, List.length_nil]; omega]
  exact h
theorem fst_le {b : Int} {L : List AV} (hb : 0 ≤ b) : 0 ≤ fstB b L ∧ fstB b L ≤ L.length := by
  unfold fstB
  split <;> omega
theorem there_wp {a t : Nat} {b : Int} {L : List AV} (hb : 0 ≤ b) (hl : L.length ≤ 1000) (h1 : σ a = some (Po b t)) (h2 : σ t = some (.list L)) (h : ∀ c, σ c = Option.none → Q (.obj c) (upd σ c (.list (rangeL (fstB b L) L.length)))) : wpF prg (d + 2) 4 [.obj a] σ Q E := by
  refine wpF_in (fi := fn4) rfl rfl ?_
  have f := fst_le (b := b) (L := L) hb
  simp -implicitDefEqProofs only [fn4, w4, e_lookV, e_var, e_c, e_nil, e_cons, e_kEs1, e_kEs2, e_tup, e_kTup, e_lst, e_kLst, e_o2, e_kO1, e_kO2, e_o1, e_kU, e_oN, e_kN, e_neg, e_not, e_bl, e_kBool, e_blNil, e_blCons, e_onT, e_kBl, e_brBl1, e_brBl0, e_brBlN, e_cmp, e_kCmp, e_cNil, e_cCons, e_kCh1, e_kCh2n, e_kCh20, e_kCh21, e_call, e_kCall, e_new, e_kNew, e_kInit, e_meth, e_kMeth2, s_assign, s_kAsg, s_kE, s_setAttr, s_kSA1, s_expr, s_kExp, s_ret, s_kRet, s_ite, s_brS1, s_brS0, s_rais, s_try, s_kTry, s_brH1, s_kH, s_for, s_bOne, b_nil, b_cons, b_kSeqN, b_kSeqR, f_kFnN, f_kFnR, f_eFn, l_nil, l_cons, l_kFLN, d_set0, d_setS, d_get0, d_getS, d_bt, d_bf, d_nt, d_nf, d_gi, o_add, o_sub, o_mul, o_mod, o_fdiv, o_addS, o_mulS, o_idxT, o_sl, c_lt, c_le, c_ge, c_eqI, x_len, x_max2, x_intB, x_isiV, x_for, e_lstO, e_bm, e_kBm2, s_forX, s_kForX, e_xRange, e_xList, e_kComp, e_kCmpE0, e_mkLi, e_mkLo, x_kXR1, x_kXLi, x_bCmp, d_kCompF, d_bCmpF, d_kCF1, d_kCF0, d_kSome, d_listR, d_kListR2, List.map_cons, List.map_nil, List.cons_append, List.nil_append, List.replicate_succ, List.replicate_zero, Nat.reduceSub, Nat.reduceAdd, Int.reduceAbs, Nat.reduceLT, Nat.reducePow, Nat.reduceLeDiff, Int.reduceLE, Int.reduceLT, Int.le_refl, ne_eq, Int.reduceEq, not_false_eq_true, true_and, and_true, decide_true, decide_false, Int.reduceToNat, Int.toNat_zero, Int.toNat_one, List.getElem?_cons_succ, List.getElem?_cons_zero, if_true, if_false, Bool.false_eq_true, x_meth h1 (m := 5) rfl]
  refine first_wp h1 h2 ?_
  simp -implicitDefEqProofs only [e_lookV, e_var, e_c, e_nil, e_cons, e_kEs1, e_kEs2, e_tup, e_kTup, e_lst, e_kLst, e_o2, e_kO1, e_kO2, e_o1, e_kU, e_oN, e_kN, e_neg, e_not, e_bl, e_kBool, e_blNil, e_blCons, e_onT, e_kBl, e_brBl1, e_brBl0, e_brBlN, e_cmp, e_kCmp, e_cNil, e_cCons, e_kCh1, e_kCh2n, e_kCh20, e_kCh21, e_call, e_kCall, e_new, e_kNew, e_kInit, e_meth, e_kMeth2, s_assign, s_kAsg, s_kE, s_setAttr, s_kSA1, s_expr, s_kExp, s_ret, s_kRet, s_ite, s_brS1, s_brS0, s_rais, s_try, s_kTry, s_brH1, s_kH, s_for, s_bOne, b_nil, b_cons, b_kSeqN, b_kSeqR, f_kFnN, f_kFnR, f_eFn, l_nil, l_cons, l_kFLN, d_set0, d_setS, d_get0, d_getS, d_bt, d_bf, d_nt, d_nf, d_gi, o_add, o_sub, o_mul, o_mod, o_fdiv, o_addS, o_mulS, o_idxT, o_sl, c_lt, c_le, c_ge, c_eqI, x_len, x_max2, x_intB, x_isiV, x_for, e_lstO, e_bm, e_kBm2, s_forX, s_kForX, e_xRange, e_xList, e_kComp, e_kCmpE0, e_mkLi, e_mkLo, x_kXR1, x_kXLi, x_bCmp, d_kCompF, d_bCmpF, d_kCF1, d_kCF0, d_kSome, d_listR, d_kListR2, List.map_cons, List.map_nil, List.cons_append, List.nil_append, List.replicate_succ, List.replicate_zero, Nat.reduceSub, Nat.reduceAdd, Int.reduceAbs, Nat.reduceLT, Nat.reducePow, Nat.reduceLeDiff, Int.reduceLE, Int.reduceLT, Int.le_refl, ne_eq, Int.reduceEq, not_false_eq_true, true_and, and_true, decide_true, decide_false, Int.reduceToNat, Int.toNat_zero, Int.toNat_one, List.getElem?_cons_succ, List.getElem?_cons_zero, if_true, if_false, Bool.false_eq_true, x_attr h1 a1, x_lenO h2]
  exact ⟨⟨by omega, by omega, by omega⟩, h⟩
theorem amongT {i lo hi : Int} (h : lo ≤ i ∧ i ≤ hi) : amongB (.int i) lo hi = true := by
  show (decide (lo ≤ i) && decide (i ≤ hi)) = true
  rw [decide_eq_true h.1, decide_eq_true h.2]; rfl
theorem amongF {i lo hi : Int} (h : ¬ (lo ≤ i ∧ i ≤ hi)) : amongB (.int i) lo hi = false := by
  show (decide (lo ≤ i) && decide (i ≤ hi)) = false
  by_cases h1 : lo ≤ i
  · rw [decide_eq_true h1, decide_eq_false (fun q => h ⟨h1, q⟩)]; rfl
  · rw [decide_eq_false h1]; rfl
theorem taken_yes {a t : Nat} {b n : Int} {L : List AV} {v : AV} (hb : 0 ≤ b) (h1 : σ a = some (Po b t)) (h2 : σ t = some (.list L)) (hn : fstB b L ≤ n ∧ n < L.length) (hv : L[n.toNat]? = some v) (h : Q v σ) : wpF prg (d + 2) 5 [.obj a, .int n] σ Q E := by
  refine wpF_in (fi := fn5) rfl rfl ?_
  have f := fst_le (b := b) (L := L) hb
  simp -implicitDefEqProofs only [fn5, w5, e_lookV, e_var, e_c, e_nil, e_cons, e_kEs1, e_kEs2, e_tup, e_kTup, e_lst, e_kLst, e_o2, e_kO1, e_kO2, e_o1, e_kU, e_oN, e_kN, e_neg, e_not, e_bl, e_kBool, e_blNil, e_blCons, e_onT, e_kBl, e_brBl1, e_brBl0, e_brBlN, e_cmp, e_kCmp, e_cNil, e_cCons, e_kCh1, e_kCh2n, e_kCh20, e_kCh21, e_call, e_kCall, e_new, e_kNew, e_kInit, e_meth, e_kMeth2, s_assign, s_kAsg, s_kE, s_setAttr, s_kSA1, s_expr, s_kExp, s_ret, s_kRet, s_ite, s_brS1, s_brS0, s_rais, s_try, s_kTry, s_brH1, s_kH, s_for, s_bOne, b_nil, b_cons, b_kSeqN, b_kSeqR, f_kFnN, f_kFnR, f_eFn, l_nil, l_cons, l_kFLN, d_set0, d_setS, d_get0, d_getS, d_bt, d_bf, d_nt, d_nf, d_gi, o_add, o_sub, o_mul, o_mod, o_fdiv, o_addS, o_mulS, o_idxT, o_sl, c_lt, c_le, c_ge, c_eqI, x_len, x_max2, x_intB, x_isiV, x_for, e_lstO, e_bm, e_kBm2, s_forX, s_kForX, e_xRange, e_xList, e_kComp, e_kCmpE0, e_mkLi, e_mkLo, x_kXR1, x_kXLi, x_bCmp, d_kCompF, d_bCmpF, d_kCF1, d_kCF0, d_kSome, d_listR, d_kListR2, List.map_cons, List.map_nil, List.cons_append, List.nil_append, List.replicate_succ, List.replicate_zero, Nat.reduceSub, Nat.reduceAdd, Int.reduceAbs, Nat.reduceLT, Nat.reducePow, Nat.reduceLeDiff, Int.reduceLE, Int.reduceLT, Int.le_refl, ne_eq, Int.reduceEq, not_false_eq_true, true_and, and_true, decide_true, decide_false, Int.reduceToNat, Int.toNat_zero, Int.toNat_one, List.getElem?_cons_succ, List.getElem?_cons_zero, if_true, if_false, Bool.false_eq_true, x_meth h1 (m := 5) rfl]
  refine first_wp h1 h2 ?_
  simp -implicitDefEqProofs only [e_lookV, e_var, e_c, e_nil, e_cons, e_kEs1, e_kEs2, e_tup, e_kTup, e_lst, e_kLst, e_o2, e_kO1, e_kO2, e_o1, e_kU, e_oN, e_kN, e_neg, e_not, e_bl, e_kBool, e_blNil, e_blCons, e_onT, e_kBl, e_brBl1, e_brBl0, e_brBlN, e_cmp, e_kCmp, e_cNil, e_cCons, e_kCh1, e_kCh2n, e_kCh20, e_kCh21, e_call, e_kCall, e_new, e_kNew, e_kInit, e_meth, e_kMeth2, s_assign, s_kAsg, s_kE, s_setAttr, s_kSA1, s_expr, s_kExp, s_ret, s_kRet, s_ite, s_brS1, s_brS0, s_rais, s_try, s_kTry, s_brH1, s_kH, s_for, s_bOne, b_nil, b_cons, b_kSeqN, b_kSeqR, f_kFnN, f_kFnR, f_eFn, l_nil, l_cons, l_kFLN, d_set0, d_setS, d_get0, d_getS, d_bt, d_bf, d_nt, d_nf, d_gi, o_add, o_sub, o_mul, o_mod, o_fdiv, o_addS, o_mulS, o_idxT, o_sl, c_lt, c_le, c_ge, c_eqI, x_len, x_max2, x_intB, x_isiV, x_for, e_lstO, e_bm, e_kBm2, s_forX, s_kForX, e_xRange, e_xList, e_kComp, e_kCmpE0, e_mkLi, e_mkLo, x_kXR1, x_kXLi, x_bCmp, d_kCompF, d_bCmpF, d_kCF1, d_kCF0, d_kSome, d_listR, d_kListR2, List.map_cons, List.map_nil, List.cons_append, List.nil_append, List.replicate_succ, List.replicate_zero, Nat.reduceSub, Nat.reduceAdd, Int.reduceAbs, Nat.reduceLT, Nat.reducePow, Nat.reduceLeDiff, Int.reduceLE, Int.reduceLT, Int.le_refl, ne_eq, Int.reduceEq, not_false_eq_true, true_and, and_true, decide_true, decide_false, Int.reduceToNat, Int.toNat_zero, Int.toNat_one, List.getElem?_cons_succ, List.getElem?_cons_zero, if_true, if_false, Bool.false_eq_true, x_attr h1 a1, x_lenO h2]
  refine among_wp rfl ?_
  rw [amongT ⟨hn.1, by omega⟩]
  simp -implicitDefEqProofs only [e_lookV, e_var, e_c, e_nil, e_cons, e_kEs1, e_kEs2, e_tup, e_kTup, e_lst, e_kLst, e_o2, e_kO1, e_kO2, e_o1, e_kU, e_oN, e_kN, e_neg, e_not, e_bl, e_kBool, e_blNil, e_blCons, e_onT, e_kBl, e_brBl1, e_brBl0, e_brBlN, e_cmp, e_kCmp, e_cNil, e_cCons, e_kCh1, e_kCh2n, e_kCh20, e_kCh21, e_call, e_kCall, e_new, e_kNew, e_kInit, e_meth, e_kMeth2, s_assign, s_kAsg, s_kE, s_setAttr, s_kSA1, s_expr, s_kExp, s_ret, s_kRet, s_ite, s_brS1, s_brS0, s_rais, s_try, s_kTry, s_brH1, s_kH, s_for, s_bOne, b_nil, b_cons, b_kSeqN, b_kSeqR, f_kFnN, f_kFnR, f_eFn, l_nil, l_cons, l_kFLN, d_set0, d_setS, d_get0, d_getS, d_bt, d_bf, d_nt, d_nf, d_gi, o_add, o_sub, o_mul, o_mod, o_fdiv, o_addS, o_mulS, o_idxT, o_sl, c_lt, c_le, c_ge, c_eqI, x_len, x_max2, x_intB, x_isiV, x_for, e_lstO, e_bm, e_kBm2, s_forX, s_kForX, e_xRange, e_xList, e_kComp, e_kCmpE0, e_mkLi, e_mkLo, x_kXR1, x_kXLi, x_bCmp, d_kCompF, d_bCmpF, d_kCF1, d_kCF0, d_kSome, d_listR, d_kListR2, List.map_cons, List.map_nil, List.cons_append, List.nil_append, List.replicate_succ, List.replicate_zero, Nat.reduceSub, Nat.reduceAdd, Int.reduceAbs, Nat.reduceLT, Nat.reducePow, Nat.reduceLeDiff, Int.reduceLE, Int.reduceLT, Int.le_refl, ne_eq, Int.reduceEq, not_false_eq_true, true_and, and_true, decide_true, decide_false, Int.reduceToNat, Int.toNat_zero, Int.toNat_one, List.getElem?_cons_succ, List.getElem?_cons_zero, if_true, if_false, Bool.false_eq_true, x_attr h1 a1, x_idxO h2, hv]
  exact ⟨by omega, h⟩
theorem taken_no {a t : Nat} {b : Int} {L : List AV} {v : AV} (hp : plainV v = true) (h1 : σ a = some (Po b t)) (h2 : σ t = some (.list L)) (hn : amongB v (fstB b L) (L.length - 1) = false) (h : E 6 σ) : wpF prg (d + 2) 5 [.obj a, v] σ Q E := by
  refine wpF_in (fi := fn5) rfl rfl ?_
  simp -implicitDefEqProofs only [fn5, w5, e_lookV, e_var, e_c, e_nil, e_cons, e_kEs1, e_kEs2, e_tup, e_kTup, e_lst, e_kLst, e_o2, e_kO1, e_kO2, e_o1, e_kU, e_oN, e_kN, e_neg, e_not, e_bl, e_kBool, e_blNil, e_blCons, e_onT, e_kBl, e_brBl1, e_brBl0, e_brBlN, e_cmp, e_kCmp, e_cNil, e_cCons, e_kCh1, e_kCh2n, e_kCh20, e_kCh21, e_call, e_kCall, e_new, e_kNew, e_kInit, e_meth, e_kMeth2, s_assign, s_kAsg, s_kE, s_setAttr, s_kSA1, s_expr, s_kExp, s_ret, s_kRet, s_ite, s_brS1, s_brS0, s_rais, s_try, s_kTry, s_brH1, s_kH, s_for, s_bOne, b_nil, b_cons, b_kSeqN, b_kSeqR, f_kFnN, f_kFnR, f_eFn, l_nil, l_cons, l_kFLN, d_set0, d_setS, d_get0, d_getS, d_bt, d_bf, d_nt, d_nf, d_gi, o_add, o_sub, o_mul, o_mod, o_fdiv, o_addS, o_mulS, o_idxT, o_sl, c_lt, c_le, c_ge, c_eqI, x_len, x_max2, x_intB, x_isiV, x_for, e_lstO, e_bm, e_kBm2, s_forX, s_kForX, e_xRange, e_xList, e_kComp, e_kCmpE0, e_mkLi, e_mkLo, x_kXR1, x_kXLi, x_bCmp, d_kCompF, d_bCmpF, d_kCF1, d_kCF0, d_kSome, d_listR, d_kListR2, List.map_cons, List.map_nil, List.cons_append, List.nil_append, List.replicate_succ, List.replicate_zero, Nat.reduceSub, Nat.reduceAdd, Int.reduceAbs, Nat.reduceLT, Nat.reducePow, Nat.reduceLeDiff, Int.reduceLE, Int.reduceLT, Int.le_refl, ne_eq, Int.reduceEq, not_false_eq_true, true_and, and_true, decide_true, decide_false, Int.reduceToNat, Int.toNat_zero, Int.toNat_one, List.getElem?_cons_succ, List.getElem?_cons_zero, if_true, if_false, Bool.false_eq_true, x_meth h1 (m := 5) rfl]
  refine first_wp h1 h2 ?_
  simp -implicitDefEqProofs only [e_lookV, e_var, e_c, e_nil, e_cons, e_kEs1, e_kEs2, e_tup, e_kTup, e_lst, e_kLst, e_o2, e_kO1, e_kO2, e_o1, e_kU, e_oN, e_kN, e_neg, e_not, e_bl, e_kBool, e_blNil, e_blCons, e_onT, e_kBl, e_brBl1, e_brBl0, e_brBlN, e_cmp, e_kCmp, e_cNil, e_cCons, e_kCh1, e_kCh2n, e_kCh20, e_kCh21, e_call, e_kCall, e_new, e_kNew, e_kInit, e_meth, e_kMeth2, s_assign, s_kAsg, s_kE, s_setAttr, s_kSA1, s_expr, s_kExp, s_ret, s_kRet, s_ite, s_brS1, s_brS0, s_rais, s_try, s_kTry, s_brH1, s_kH, s_for, s_bOne, b_nil, b_cons, b_kSeqN, b_kSeqR, f_kFnN, f_kFnR, f_eFn, l_nil, l_cons, l_kFLN, d_set0, d_setS, d_get0, d_getS, d_bt, d_bf, d_nt, d_nf, d_gi, o_add, o_sub, o_mul, o_mod, o_fdiv, o_addS, o_mulS, o_idxT, o_sl, c_lt, c_le, c_ge, c_eqI, x_len, x_max2, x_intB, x_isiV, x_for, e_lstO, e_bm, e_kBm2, s_forX, s_kForX, e_xRange, e_xList, e_kComp, e_kCmpE0, e_mkLi, e_mkLo, x_kXR1, x_kXLi, x_bCmp, d_kCompF, d_bCmpF, d_kCF1, d_kCF0, d_kSome, d_listR, d_kListR2, List.map_cons, List.map_nil, List.cons_append, List.nil_append, List.replicate_succ, List.replicate_zero, Nat.reduceSub, Nat.reduceAdd, Int.reduceAbs, Nat.reduceLT, Nat.reducePow, Nat.reduceLeDiff, Int.reduceLE, Int.reduceLT, Int.le_refl, ne_eq, Int.reduceEq, not_false_eq_true, true_and, and_true, decide_true, decide_false, Int.reduceToNat, Int.toNat_zero, Int.toNat_one, List.getElem?_cons_succ, List.getElem?_cons_zero, if_true, if_false, Bool.false_eq_true, x_attr h1 a1, x_lenO h2]
  refine among_wp hp ?_
  rw [hn]
  simp -implicitDefEqProofs only [e_lookV, e_var, e_c, e_nil, e_cons, e_kEs1, e_kEs2, e_tup, e_kTup, e_lst, e_kLst, e_o2, e_kO1, e_kO2, e_o1, e_kU, e_oN, e_kN, e_neg, e_not, e_bl, e_kBool, e_blNil, e_blCons, e_onT, e_kBl, e_brBl1, e_brBl0, e_brBlN, e_cmp, e_kCmp, e_cNil, e_cCons, e_kCh1, e_kCh2n, e_kCh20, e_kCh21, e_call, e_kCall, e_new, e_kNew, e_kInit, e_meth, e_kMeth2, s_assign, s_kAsg, s_kE, s_setAttr, s_kSA1, s_expr, s_kExp, s_ret, s_kRet, s_ite, s_brS1, s_brS0, s_rais, s_try, s_kTry, s_brH1, s_kH, s_for, s_bOne, b_nil, b_cons, b_kSeqN, b_kSeqR, f_kFnN, f_kFnR, f_eFn, l_nil, l_cons, l_kFLN, d_set0, d_setS, d_get0, d_getS, d_bt, d_bf, d_nt, d_nf, d_gi, o_add, o_sub, o_mul, o_mod, o_fdiv, o_addS, o_mulS, o_idxT, o_sl, c_lt, c_le, c_ge, c_eqI, x_len, x_max2, x_intB, x_isiV, x_for, e_lstO, e_bm, e_kBm2, s_forX, s_kForX, e_xRange, e_xList, e_kComp, e_kCmpE0, e_mkLi, e_mkLo, x_kXR1, x_kXLi, x_bCmp, d_kCompF, d_bCmpF, d_kCF1, d_kCF0, d_kSome, d_listR, d_kListR2, List.map_cons, List.map_nil, List.cons_append, List.nil_append, List.replicate_succ, List.replicate_zero, Nat.reduceSub, Nat.reduceAdd, Int.reduceAbs, Nat.reduceLT, Nat.reducePow, Nat.reduceLeDiff, Int.reduceLE, Int.reduceLT, Int.le_refl, ne_eq, Int.reduceEq, not_false_eq_true, true_and, and_true, decide_true, decide_false, Int.reduceToNat, Int.toNat_zero, Int.toNat_one, List.getElem?_cons_succ, List.getElem?_cons_zero, if_true, if_false, Bool.false_eq_true]
  exact h
theorem cls6 : clss[6]? = some ⟨Option.none, [], [6, 0]⟩ := rfl
theorem l1 : (Str.ofString "letter").length = 6 := by decide +kernel
theorem l4 : (Str.ofString "x").length = 1 := by decide +kernel
theorem l5 : (Str.empty).length = 0 := by decide +kernel
theorem word_wp (h : Q (.str (Str.ofString "letter")) σ) : wpF prg (d + 1) 9 [.exn 6] σ Q E := by
  have c1 : ([6, 0].contains 1) = false := rfl
  have c2 : ([6, 0].contains 2) = false := rfl
  have c3 : ([6, 0].contains 3) = false := rfl
  have c4 : ([6, 0].contains 4) = false := rfl
  have c5 : ([6, 0].contains 5) = false := rfl
  have c6 : ([6, 0].contains 6) = true := rfl
  have c7 : ([6, 0].contains 7) = false := rfl
  have c8 : ([6, 0].contains 8) = false := rfl
  refine wpF_in (fi := fn9) rfl rfl ?_
  simp -implicitDefEqProofs only [fn9, w9, e_lookV, e_var, e_c, e_nil, e_cons, e_kEs1, e_kEs2, e_tup, e_kTup, e_lst, e_kLst, e_o2, e_kO1, e_kO2, e_o1, e_kU, e_oN, e_kN, e_neg, e_not, e_bl, e_kBool, e_blNil, e_blCons, e_onT, e_kBl, e_brBl1, e_brBl0, e_brBlN, e_cmp, e_kCmp, e_cNil, e_cCons, e_kCh1, e_kCh2n, e_kCh20, e_kCh21, e_call, e_kCall, e_new, e_kNew, e_kInit, e_meth, e_kMeth2, s_assign, s_kAsg, s_kE, s_setAttr, s_kSA1, s_expr, s_kExp, s_ret, s_kRet, s_ite, s_brS1, s_brS0, s_rais, s_try, s_kTry, s_brH1, s_kH, s_for, s_bOne, b_nil, b_cons, b_kSeqN, b_kSeqR, f_kFnN, f_kFnR, f_eFn, l_nil, l_cons, l_kFLN, d_set0, d_setS, d_get0, d_getS, d_bt, d_bf, d_nt, d_nf, d_gi, o_add, o_sub, o_mul, o_mod, o_fdiv, o_addS, o_mulS, o_idxT, o_sl, c_lt, c_le, c_ge, c_eqI, x_len, x_max2, x_intB, x_isiV, x_for, e_lstO, e_bm, e_kBm2, s_forX, s_kForX, e_xRange, e_xList, e_kComp, e_kCmpE0, e_mkLi, e_mkLo, x_kXR1, x_kXLi, x_bCmp, d_kCompF, d_bCmpF, d_kCF1, d_kCF0, d_kSome, d_listR, d_kListR2, List.map_cons, List.map_nil, List.cons_append, List.nil_append, List.replicate_succ, List.replicate_zero, Nat.reduceSub, Nat.reduceAdd, Int.reduceAbs, Nat.reduceLT, Nat.reducePow, Nat.reduceLeDiff, Int.reduceLE, Int.reduceLT, Int.le_refl, ne_eq, Int.reduceEq, not_false_eq_true, true_and, and_true, decide_true, decide_false, Int.reduceToNat, Int.toNat_zero, Int.toNat_one, List.getElem?_cons_succ, List.getElem?_cons_zero, if_true, if_false, Bool.false_eq_true, x_isiX cls6, c1, c2, c3, c4, c5, c6, c7, c8, mul0, mul1, app0, app1, l1, l4, l5, Nat.add_zero, Nat.zero_add]
  exact h
noncomputable abbrev refd : AV := .tup [.str (Str.ofString "refused"), .str (Str.ofString "letter")]
noncomputable abbrev told (v : AV) : AV := .tup [.str (Str.ofString "told"), v]
theorem said_yes {a t : Nat} {b n : Int} {L : List AV} {v : AV} (hb : 0 ≤ b) (h1 : σ a = some (Po b t)) (h2 : σ t = some (.list L)) (hn : fstB b L ≤ n ∧ n < L.length) (hv : L[n.toNat]? = some v) (h : Q (told v) σ) : wpF prg (d + 3) 10 [.obj a, .int n] σ Q E := by
  refine wpF_in (fi := fn10) rfl rfl ?_
  simp -implicitDefEqProofs only [fn10, w10, e_lookV, e_var, e_c, e_nil, e_cons, e_kEs1, e_kEs2, e_tup, e_kTup, e_lst, e_kLst, e_o2, e_kO1, e_kO2, e_o1, e_kU, e_oN, e_kN, e_neg, e_not, e_bl, e_kBool, e_blNil, e_blCons, e_onT, e_kBl, e_brBl1, e_brBl0, e_brBlN, e_cmp, e_kCmp, e_cNil, e_cCons, e_kCh1, e_kCh2n, e_kCh20, e_kCh21, e_call, e_kCall, e_new, e_kNew, e_kInit, e_meth, e_kMeth2, s_assign, s_kAsg, s_kE, s_setAttr, s_kSA1, s_expr, s_kExp, s_ret, s_kRet, s_ite, s_brS1, s_brS0, s_rais, s_try, s_kTry, s_brH1, s_kH, s_for, s_bOne, b_nil, b_cons, b_kSeqN, b_kSeqR, f_kFnN, f_kFnR, f_eFn, l_nil, l_cons, l_kFLN, d_set0, d_setS, d_get0, d_getS, d_bt, d_bf, d_nt, d_nf, d_gi, o_add, o_sub, o_mul, o_mod, o_fdiv, o_addS, o_mulS, o_idxT, o_sl, c_lt, c_le, c_ge, c_eqI, x_len, x_max2, x_intB, x_isiV, x_for, e_lstO, e_bm, e_kBm2, s_forX, s_kForX, e_xRange, e_xList, e_kComp, e_kCmpE0, e_mkLi, e_mkLo, x_kXR1, x_kXLi, x_bCmp, d_kCompF, d_bCmpF, d_kCF1, d_kCF0, d_kSome, d_listR, d_kListR2, List.map_cons, List.map_nil, List.cons_append, List.nil_append, List.replicate_succ, List.replicate_zero, Nat.reduceSub, Nat.reduceAdd, Int.reduceAbs, Nat.reduceLT, Nat.reducePow, Nat.reduceLeDiff, Int.reduceLE, Int.reduceLT, Int.le_refl, ne_eq, Int.reduceEq, not_false_eq_true, true_and, and_true, decide_true, decide_false, Int.reduceToNat, Int.toNat_zero, Int.toNat_one, List.getElem?_cons_succ, List.getElem?_cons_zero, if_true, if_false, Bool.false_eq_true, x_meth h1 (m := 3) rfl]
  refine taken_yes hb h1 h2 hn hv ?_
  simp -implicitDefEqProofs only [e_lookV, e_var, e_c, e_nil, e_cons, e_kEs1, e_kEs2, e_tup, e_kTup, e_lst, e_kLst, e_o2, e_kO1, e_kO2, e_o1, e_kU, e_oN, e_kN, e_neg, e_not, e_bl, e_kBool, e_blNil, e_blCons, e_onT, e_kBl, e_brBl1, e_brBl0, e_brBlN, e_cmp, e_kCmp, e_cNil, e_cCons, e_kCh1, e_kCh2n, e_kCh20, e_kCh21, e_call, e_kCall, e_new, e_kNew, e_kInit, e_meth, e_kMeth2, s_assign, s_kAsg, s_kE, s_setAttr, s_kSA1, s_expr, s_kExp, s_ret, s_kRet, s_ite, s_brS1, s_brS0, s_rais, s_try, s_kTry, s_brH1, s_kH, s_for, s_bOne, b_nil, b_cons, b_kSeqN, b_kSeqR, f_kFnN, f_kFnR, f_eFn, l_nil, l_cons, l_kFLN, d_set0, d_setS, d_get0, d_getS, d_bt, d_bf, d_nt, d_nf, d_gi, o_add, o_sub, o_mul, o_mod, o_fdiv, o_addS, o_mulS, o_idxT, o_sl, c_lt, c_le, c_ge, c_eqI, x_len, x_max2, x_intB, x_isiV, x_for, e_lstO, e_bm, e_kBm2, s_forX, s_kForX, e_xRange, e_xList, e_kComp, e_kCmpE0, e_mkLi, e_mkLo, x_kXR1, x_kXLi, x_bCmp, d_kCompF, d_bCmpF, d_kCF1, d_kCF0, d_kSome, d_listR, d_kListR2, List.map_cons, List.map_nil, List.cons_append, List.nil_append, List.replicate_succ, List.replicate_zero, Nat.reduceSub, Nat.reduceAdd, Int.reduceAbs, Nat.reduceLT, Nat.reducePow, Nat.reduceLeDiff, Int.reduceLE, Int.reduceLT, Int.le_refl, ne_eq, Int.reduceEq, not_false_eq_true, true_and, and_true, decide_true, decide_false, Int.reduceToNat, Int.toNat_zero, Int.toNat_one, List.getElem?_cons_succ, List.getElem?_cons_zero, if_true, if_false, Bool.false_eq_true]
  exact h
theorem said_no {a t : Nat} {b : Int} {L : List AV} {v : AV} (hp : plainV v = true) (h1 : σ a = some (Po b t)) (h2 : σ t = some (.list L)) (hn : amongB v (fstB b L) (L.length - 1) = false) (h : Q refd σ) : wpF prg (d + 3) 10 [.obj a, v] σ Q E := by
  refine wpF_in (fi := fn10) rfl rfl ?_
  have c0 : ([6, 0].contains 0) = true := rfl
  simp -implicitDefEqProofs only [fn10, w10, e_lookV, e_var, e_c, e_nil, e_cons, e_kEs1, e_kEs2, e_tup, e_kTup, e_lst, e_kLst, e_o2, e_kO1, e_kO2, e_o1, e_kU, e_oN, e_kN, e_neg, e_not, e_bl, e_kBool, e_blNil, e_blCons, e_onT, e_kBl, e_brBl1, e_brBl0, e_brBlN, e_cmp, e_kCmp, e_cNil, e_cCons, e_kCh1, e_kCh2n, e_kCh20, e_kCh21, e_call, e_kCall, e_new, e_kNew, e_kInit, e_meth, e_kMeth2, s_assign, s_kAsg, s_kE, s_setAttr, s_kSA1, s_expr, s_kExp, s_ret, s_kRet, s_ite, s_brS1, s_brS0, s_rais, s_try, s_kTry, s_brH1, s_kH, s_for, s_bOne, b_nil, b_cons, b_kSeqN, b_kSeqR, f_kFnN, f_kFnR, f_eFn, l_nil, l_cons, l_kFLN, d_set0, d_setS, d_get0, d_getS, d_bt, d_bf, d_nt, d_nf, d_gi, o_add, o_sub, o_mul, o_mod, o_fdiv, o_addS, o_mulS, o_idxT, o_sl, c_lt, c_le, c_ge, c_eqI, x_len, x_max2, x_intB, x_isiV, x_for, e_lstO, e_bm, e_kBm2, s_forX, s_kForX, e_xRange, e_xList, e_kComp, e_kCmpE0, e_mkLi, e_mkLo, x_kXR1, x_kXLi, x_bCmp, d_kCompF, d_bCmpF, d_kCF1, d_kCF0, d_kSome, d_listR, d_kListR2, List.map_cons, List.map_nil, List.cons_append, List.nil_append, List.replicate_succ, List.replicate_zero, Nat.reduceSub, Nat.reduceAdd, Int.reduceAbs, Nat.reduceLT, Nat.reducePow, Nat.reduceLeDiff, Int.reduceLE, Int.reduceLT, Int.le_refl, ne_eq, Int.reduceEq, not_false_eq_true, true_and, and_true, decide_true, decide_false, Int.reduceToNat, Int.toNat_zero, Int.toNat_one, List.getElem?_cons_succ, List.getElem?_cons_zero, if_true, if_false, Bool.false_eq_true, x_meth h1 (m := 3) rfl]
  refine taken_no hp h1 h2 hn ?_
  simp -implicitDefEqProofs only [e_lookV, e_var, e_c, e_nil, e_cons, e_kEs1, e_kEs2, e_tup, e_kTup, e_lst, e_kLst, e_o2, e_kO1, e_kO2, e_o1, e_kU, e_oN, e_kN, e_neg, e_not, e_bl, e_kBool, e_blNil, e_blCons, e_onT, e_kBl, e_brBl1, e_brBl0, e_brBlN, e_cmp, e_kCmp, e_cNil, e_cCons, e_kCh1, e_kCh2n, e_kCh20, e_kCh21, e_call, e_kCall, e_new, e_kNew, e_kInit, e_meth, e_kMeth2, s_assign, s_kAsg, s_kE, s_setAttr, s_kSA1, s_expr, s_kExp, s_ret, s_kRet, s_ite, s_brS1, s_brS0, s_rais, s_try, s_kTry, s_brH1, s_kH, s_for, s_bOne, b_nil, b_cons, b_kSeqN, b_kSeqR, f_kFnN, f_kFnR, f_eFn, l_nil, l_cons, l_kFLN, d_set0, d_setS, d_get0, d_getS, d_bt, d_bf, d_nt, d_nf, d_gi, o_add, o_sub, o_mul, o_mod, o_fdiv, o_addS, o_mulS, o_idxT, o_sl, c_lt, c_le, c_ge, c_eqI, x_len, x_max2, x_intB, x_isiV, x_for, e_lstO, e_bm, e_kBm2, s_forX, s_kForX, e_xRange, e_xList, e_kComp, e_kCmpE0, e_mkLi, e_mkLo, x_kXR1, x_kXLi, x_bCmp, d_kCompF, d_bCmpF, d_kCF1, d_kCF0, d_kSome, d_listR, d_kListR2, List.map_cons, List.map_nil, List.cons_append, List.nil_append, List.replicate_succ, List.replicate_zero, Nat.reduceSub, Nat.reduceAdd, Int.reduceAbs, Nat.reduceLT, Nat.reducePow, Nat.reduceLeDiff, Int.reduceLE, Int.reduceLT, Int.le_refl, ne_eq, Int.reduceEq, not_false_eq_true, true_and, and_true, decide_true, decide_false, Int.reduceToNat, Int.toNat_zero, Int.toNat_one, List.getElem?_cons_succ, List.getElem?_cons_zero, if_true, if_false, Bool.false_eq_true, x_hCons cls6, c0]
  refine word_wp ?_
  simp -implicitDefEqProofs only [e_lookV, e_var, e_c, e_nil, e_cons, e_kEs1, e_kEs2, e_tup, e_kTup, e_lst, e_kLst, e_o2, e_kO1, e_kO2, e_o1, e_kU, e_oN, e_kN, e_neg, e_not, e_bl, e_kBool, e_blNil, e_blCons, e_onT, e_kBl, e_brBl1, e_brBl0, e_brBlN, e_cmp, e_kCmp, e_cNil, e_cCons, e_kCh1, e_kCh2n, e_kCh20, e_kCh21, e_call, e_kCall, e_new, e_kNew, e_kInit, e_meth, e_kMeth2, s_assign, s_kAsg, s_kE, s_setAttr, s_kSA1, s_expr, s_kExp, s_ret, s_kRet, s_ite, s_brS1, s_brS0, s_rais, s_try, s_kTry, s_brH1, s_kH, s_for, s_bOne, b_nil, b_cons, b_kSeqN, b_kSeqR, f_kFnN, f_kFnR, f_eFn, l_nil, l_cons, l_kFLN, d_set0, d_setS, d_get0, d_getS, d_bt, d_bf, d_nt, d_nf, d_gi, o_add, o_sub, o_mul, o_mod, o_fdiv, o_addS, o_mulS, o_idxT, o_sl, c_lt, c_le, c_ge, c_eqI, x_len, x_max2, x_intB, x_isiV, x_for, e_lstO, e_bm, e_kBm2, s_forX, s_kForX, e_xRange, e_xList, e_kComp, e_kCmpE0, e_mkLi, e_mkLo, x_kXR1, x_kXLi, x_bCmp, d_kCompF, d_bCmpF, d_kCF1, d_kCF0, d_kSome, d_listR, d_kListR2, List.map_cons, List.map_nil, List.cons_append, List.nil_append, List.replicate_succ, List.replicate_zero, Nat.reduceSub, Nat.reduceAdd, Int.reduceAbs, Nat.reduceLT, Nat.reducePow, Nat.reduceLeDiff, Int.reduceLE, Int.reduceLT, Int.le_refl, ne_eq, Int.reduceEq, not_false_eq_true, true_and, and_true, decide_true, decide_false, Int.reduceToNat, Int.toNat_zero, Int.toNat_one, List.getElem?_cons_succ, List.getElem?_cons_zero, if_true, if_false, Bool.false_eq_true]
  exact h
noncomputable def menu : List AV := [.str (Str.ofString "a"), .str (Str.ofString "b"), .int 5, .tup [.int 1, .str (Str.ofString "a")], .tup [.int 2, .str (Str.ofString "b")], .str (Str.ofString ""), .int 0, .tup [.str (Str.ofString "a"), .int 1]]
noncomputable def thing (c : Int) : AV := (menu[(c.fmod 8).toNat]?).getD (.int 0)
theorem menu_at {i : Nat} (h : i < 8) : ∃ v, menu[i]? = some v ∧ Flat v := by
  have : i = 0 ∨ i = 1 ∨ i = 2 ∨ i = 3 ∨ i = 4 ∨ i = 5 ∨ i = 6 ∨ i = 7 := by omega
  rcases this with rfl | rfl | rfl | rfl | rfl | rfl | rfl | rfl
  · exact ⟨_, rfl, .inl ⟨_, rfl⟩⟩
  · exact ⟨_, rfl, .inl ⟨_, rfl⟩⟩
  · exact ⟨_, rfl, .inr (.inl ⟨_, rfl⟩)⟩
  · exact ⟨_, rfl, .inr (.inr (.inl ⟨_, _, rfl⟩))⟩
  · exact ⟨_, rfl, .inr (.inr (.inl ⟨_, _, rfl⟩))⟩
  · exact ⟨_, rfl, .inl ⟨_, rfl⟩⟩
  · exact ⟨_, rfl, .inr (.inl ⟨_, rfl⟩)⟩
  · exact ⟨_, rfl, .inr (.inr (.inr ⟨_, _, rfl⟩))⟩
theorem thing_flat (c : Int) : Flat (thing c) := by
  have h0 := fmod_nn (a := c) (b := 8) (by decide)
  have h1 := fmod_lt (a := c) (b := 8) (by decide)
  obtain ⟨v, hv, hf⟩ := menu_at (i := (c.fmod 8).toNat) (by omega)
  unfold thing
  rw [hv]; exact hf
theorem thing_wp {c : Int} (h : Q (thing c) σ) : wpF prg (d + 1) 11 [.int c] σ Q E := by
  have h0 := fmod_nn (a := c) (b := 8) (by decide)
  have h1 := fmod_lt (a := c) (b := 8) (by decide)
  obtain ⟨v, hv, hf⟩ := menu_at (i := (c.fmod 8).toNat) (by omega)
  unfold thing at h
  rw [hv] at h
  refine wpF_in (fi := fn11) rfl rfl ?_
  simp -implicitDefEqProofs only [fn11, w11, e_lookV, e_var, e_c, e_nil, e_cons, e_kEs1, e_kEs2, e_tup, e_kTup, e_lst, e_kLst, e_o2, e_kO1, e_kO2, e_o1, e_kU, e_oN, e_kN, e_neg, e_not, e_bl, e_kBool, e_blNil, e_blCons, e_onT, e_kBl, e_brBl1, e_brBl0, e_brBlN, e_cmp, e_kCmp, e_cNil, e_cCons, e_kCh1, e_kCh2n, e_kCh20, e_kCh21, e_call, e_kCall, e_new, e_kNew, e_kInit, e_meth, e_kMeth2, s_assign, s_kAsg, s_kE, s_setAttr, s_kSA1, s_expr, s_kExp, s_ret, s_kRet, s_ite, s_brS1, s_brS0, s_rais, s_try, s_kTry, s_brH1, s_kH, s_for, s_bOne, b_nil, b_cons, b_kSeqN, b_kSeqR, f_kFnN, f_kFnR, f_eFn, l_nil, l_cons, l_kFLN, d_set0, d_setS, d_get0, d_getS, d_bt, d_bf, d_nt, d_nf, d_gi, o_add, o_sub, o_mul, o_mod, o_fdiv, o_addS, o_mulS, o_idxT, o_sl, c_lt, c_le, c_ge, c_eqI, x_len, x_max2, x_intB, x_isiV, x_for, e_lstO, e_bm, e_kBm2, s_forX, s_kForX, e_xRange, e_xList, e_kComp, e_kCmpE0, e_mkLi, e_mkLo, x_kXR1, x_kXLi, x_bCmp, d_kCompF, d_bCmpF, d_kCF1, d_kCF0, d_kSome, d_listR, d_kListR2, List.map_cons, List.map_nil, List.cons_append, List.nil_append, List.replicate_succ, List.replicate_zero, Nat.reduceSub, Nat.reduceAdd, Int.reduceAbs, Nat.reduceLT, Nat.reducePow, Nat.reduceLeDiff, Int.reduceLE, Int.reduceLT, Int.le_refl, ne_eq, Int.reduceEq, not_false_eq_true, true_and, and_true, decide_true, decide_false, Int.reduceToNat, Int.toNat_zero, Int.toNat_one, List.getElem?_cons_succ, List.getElem?_cons_zero, if_true, if_false, Bool.false_eq_true, i_l]
  refine ⟨h0, ?_⟩
  unfold menu at hv
  rw [hv]
  exact h
theorem mask01 {a b c : Option AV} : maskL [0, 1] [a, b, c] = [a, b, Option.none] := rfl
theorem due_filter {b : Int} {L : List AV} (hb : 0 ≤ b) : (rangeL 0 (L.length : Int)).filter (fun v => match v with | .int n => decide (n + b ≥ (L.length : Int) - 1) | _ => false) = rangeL (fstB b L) L.length := by
  have f := fst_le (b := b) (L := L) hb
  obtain ⟨n, hn⟩ : ∃ n : Nat, fstB b L = n := ⟨_, (Int.toNat_of_nonneg f.1).symm⟩
  obtain ⟨m, hm⟩ : ∃ m : Nat, L.length = n + m := ⟨L.length - n, by omega⟩
  have key : ∀ i : Int, 0 ≤ i → i < L.length → (decide (i + b ≥ (L.length : Int) - 1) = decide (fstB b L ≤ i)) := by
    intro i i0 i1
    unfold fstB
    apply decide_eq_decide.mpr
    split <;> omega
  rw [hm, rangeL_cut, List.filter_append, ← hm, hn]
  rw [List.filter_eq_nil_iff.mpr ?_, List.filter_eq_self.mpr ?_, List.nil_append]
  · intro x hx
    obtain ⟨i, rfl, i0, i1⟩ := rangeL_mem hx
    show decide (i + b ≥ (L.length : Int) - 1) = true
    rw [key i (by omega) i1]
    exact decide_eq_true (by omega)
  · intro x hx
    obtain ⟨i, rfl, i0, i1⟩ := rangeL_mem hx
    show ¬ decide (i + b ≥ (L.length : Int) - 1) = true
    rw [key i i0 (by omega), decide_eq_true_iff]
    omega
theorem due_wp {r : Nat} {b : Int} {L : List AV} (hb : 0 ≤ b) (hl : L.length ≤ 1000) (h2 : σ r = some (.list L)) (h : Q (.ilist (rangeL (fstB b L) L.length)) σ) : wpF prg (d + 1) 12 [.int b, .obj r] σ Q E := by
  refine wpF_in (fi := fn12) rfl rfl ?_
  simp -implicitDefEqProofs only [fn12, w12, e_lookV, e_var, e_c, e_nil, e_cons, e_kEs1, e_kEs2, e_tup, e_kTup, e_lst, e_kLst, e_o2, e_kO1, e_kO2, e_o1, e_kU, e_oN, e_kN, e_neg, e_not, e_bl, e_kBool, e_blNil, e_blCons, e_onT, e_kBl, e_brBl1, e_brBl0, e_brBlN, e_cmp, e_kCmp, e_cNil, e_cCons, e_kCh1, e_kCh2n, e_kCh20, e_kCh21, e_call, e_kCall, e_new, e_kNew, e_kInit, e_meth, e_kMeth2, s_assign, s_kAsg, s_kE, s_setAttr, s_kSA1, s_expr, s_kExp, s_ret, s_kRet, s_ite, s_brS1, s_brS0, s_rais, s_try, s_kTry, s_brH1, s_kH, s_for, s_bOne, b_nil, b_cons, b_kSeqN, b_kSeqR, f_kFnN, f_kFnR, f_eFn, l_nil, l_cons, l_kFLN, d_set0, d_setS, d_get0, d_getS, d_bt, d_bf, d_nt, d_nf, d_gi, o_add, o_sub, o_mul, o_mod, o_fdiv, o_addS, o_mulS, o_idxT, o_sl, c_lt, c_le, c_ge, c_eqI, x_len, x_max2, x_intB, x_isiV, x_for, e_lstO, e_bm, e_kBm2, s_forX, s_kForX, e_xRange, e_xList, e_kComp, e_kCmpE0, e_mkLi, e_mkLo, x_kXR1, x_kXLi, x_bCmp, d_kCompF, d_bCmpF, d_kCF1, d_kCF0, d_kSome, d_listR, d_kListR2, List.map_cons, List.map_nil, List.cons_append, List.nil_append, List.replicate_succ, List.replicate_zero, Nat.reduceSub, Nat.reduceAdd, Int.reduceAbs, Nat.reduceLT, Nat.reducePow, Nat.reduceLeDiff, Int.reduceLE, Int.reduceLT, Int.le_refl, ne_eq, Int.reduceEq, not_false_eq_true, true_and, and_true, decide_true, decide_false, Int.reduceToNat, Int.toNat_zero, Int.toNat_one, List.getElem?_cons_succ, List.getElem?_cons_zero, if_true, if_false, Bool.false_eq_true]
  rw [e_compF]
  refine ⟨rfl, ?_⟩
  rw [mask01]
  simp -implicitDefEqProofs only [e_lookV, e_var, e_c, e_nil, e_cons, e_kEs1, e_kEs2, e_tup, e_kTup, e_lst, e_kLst, e_o2, e_kO1, e_kO2, e_o1, e_kU, e_oN, e_kN, e_neg, e_not, e_bl, e_kBool, e_blNil, e_blCons, e_onT, e_kBl, e_brBl1, e_brBl0, e_brBlN, e_cmp, e_kCmp, e_cNil, e_cCons, e_kCh1, e_kCh2n, e_kCh20, e_kCh21, e_call, e_kCall, e_new, e_kNew, e_kInit, e_meth, e_kMeth2, s_assign, s_kAsg, s_kE, s_setAttr, s_kSA1, s_expr, s_kExp, s_ret, s_kRet, s_ite, s_brS1, s_brS0, s_rais, s_try, s_kTry, s_brH1, s_kH, s_for, s_bOne, b_nil, b_cons, b_kSeqN, b_kSeqR, f_kFnN, f_kFnR, f_eFn, l_nil, l_cons, l_kFLN, d_set0, d_setS, d_get0, d_getS, d_bt, d_bf, d_nt, d_nf, d_gi, o_add, o_sub, o_mul, o_mod, o_fdiv, o_addS, o_mulS, o_idxT, o_sl, c_lt, c_le, c_ge, c_eqI, x_len, x_max2, x_intB, x_isiV, x_for, e_lstO, e_bm, e_kBm2, s_forX, s_kForX, e_xRange, e_xList, e_kComp, e_kCmpE0, e_mkLi, e_mkLo, x_kXR1, x_kXLi, x_bCmp, d_kCompF, d_bCmpF, d_kCF1, d_kCF0, d_kSome, d_listR, d_kListR2, List.map_cons, List.map_nil, List.cons_append, List.nil_append, List.replicate_succ, List.replicate_zero, Nat.reduceSub, Nat.reduceAdd, Int.reduceAbs, Nat.reduceLT, Nat.reducePow, Nat.reduceLeDiff, Int.reduceLE, Int.reduceLT, Int.le_refl, ne_eq, Int.reduceEq, not_false_eq_true, true_and, and_true, decide_true, decide_false, Int.reduceToNat, Int.toNat_zero, Int.toNat_one, List.getElem?_cons_succ, List.getElem?_cons_zero, if_true, if_false, Bool.false_eq_true, x_lenO h2]
  refine ⟨⟨by omega, by omega⟩, ?_⟩
  refine compLF_sel (fun v => match v with | .int n => decide (n + b ≥ (L.length : Int) - 1) | _ => false) trivial _ _ (fun x hx R r1 r0 => ?_) ?_
  · obtain ⟨i, rfl, i0, i1⟩ := rangeL_mem hx
    simp -implicitDefEqProofs only [e_lookV, e_var, e_c, e_nil, e_cons, e_kEs1, e_kEs2, e_tup, e_kTup, e_lst, e_kLst, e_o2, e_kO1, e_kO2, e_o1, e_kU, e_oN, e_kN, e_neg, e_not, e_bl, e_kBool, e_blNil, e_blCons, e_onT, e_kBl, e_brBl1, e_brBl0, e_brBlN, e_cmp, e_kCmp, e_cNil, e_cCons, e_kCh1, e_kCh2n, e_kCh20, e_kCh21, e_call, e_kCall, e_new, e_kNew, e_kInit, e_meth, e_kMeth2, s_assign, s_kAsg, s_kE, s_setAttr, s_kSA1, s_expr, s_kExp, s_ret, s_kRet, s_ite, s_brS1, s_brS0, s_rais, s_try, s_kTry, s_brH1, s_kH, s_for, s_bOne, b_nil, b_cons, b_kSeqN, b_kSeqR, f_kFnN, f_kFnR, f_eFn, l_nil, l_cons, l_kFLN, d_set0, d_setS, d_get0, d_getS, d_bt, d_bf, d_nt, d_nf, d_gi, o_add, o_sub, o_mul, o_mod, o_fdiv, o_addS, o_mulS, o_idxT, o_sl, c_lt, c_le, c_ge, c_eqI, x_len, x_max2, x_intB, x_isiV, x_for, e_lstO, e_bm, e_kBm2, s_forX, s_kForX, e_xRange, e_xList, e_kComp, e_kCmpE0, e_mkLi, e_mkLo, x_kXR1, x_kXLi, x_bCmp, d_kCompF, d_bCmpF, d_kCF1, d_kCF0, d_kSome, d_listR, d_kListR2, List.map_cons, List.map_nil, List.cons_append, List.nil_append, List.replicate_succ, List.replicate_zero, Nat.reduceSub, Nat.reduceAdd, Int.reduceAbs, Nat.reduceLT, Nat.reducePow, Nat.reduceLeDiff, Int.reduceLE, Int.reduceLT, Int.le_refl, ne_eq, Int.reduceEq, not_false_eq_true, true_and, and_true, decide_true, decide_false, Int.reduceToNat, Int.toNat_zero, Int.toNat_one, List.getElem?_cons_succ, List.getElem?_cons_zero, if_true, if_false, Bool.false_eq_true, x_lenO h2]
    cases hd : decide (i + b ≥ (L.length : Int) - 1) with
    | true => simp -implicitDefEqProofs only [e_lookV, e_var, e_c, e_nil, e_cons, e_kEs1, e_kEs2, e_tup, e_kTup, e_lst, e_kLst, e_o2, e_kO1, e_kO2, e_o1, e_kU, e_oN, e_kN, e_neg, e_not, e_bl, e_kBool, e_blNil, e_blCons, e_onT, e_kBl, e_brBl1, e_brBl0, e_brBlN, e_cmp, e_kCmp, e_cNil, e_cCons, e_kCh1, e_kCh2n, e_kCh20, e_kCh21, e_call, e_kCall, e_new, e_kNew, e_kInit, e_meth, e_kMeth2, s_assign, s_kAsg, s_kE, s_setAttr, s_kSA1, s_expr, s_kExp, s_ret, s_kRet, s_ite, s_brS1, s_brS0, s_rais, s_try, s_kTry, s_brH1, s_kH, s_for, s_bOne, b_nil, b_cons, b_kSeqN, b_kSeqR, f_kFnN, f_kFnR, f_eFn, l_nil, l_cons, l_kFLN, d_set0, d_setS, d_get0, d_getS, d_bt, d_bf, d_nt, d_nf, d_gi, o_add, o_sub, o_mul, o_mod, o_fdiv, o_addS, o_mulS, o_idxT, o_sl, c_lt, c_le, c_ge, c_eqI, x_len, x_max2, x_intB, x_isiV, x_for, e_lstO, e_bm, e_kBm2, s_forX, s_kForX, e_xRange, e_xList, e_kComp, e_kCmpE0, e_mkLi, e_mkLo, x_kXR1, x_kXLi, x_bCmp, d_kCompF, d_bCmpF, d_kCF1, d_kCF0, d_kSome, d_listR, d_kListR2, List.map_cons, List.map_nil, List.cons_append, List.nil_append, List.replicate_succ, List.replicate_zero, Nat.reduceSub, Nat.reduceAdd, Int.reduceAbs, Nat.reduceLT, Nat.reducePow, Nat.reduceLeDiff, Int.reduceLE, Int.reduceLT, Int.le_refl, ne_eq, Int.reduceEq, not_false_eq_true, true_and, and_true, decide_true, decide_false, Int.reduceToNat, Int.toNat_zero, Int.toNat_one, List.getElem?_cons_succ, List.getElem?_cons_zero, if_true, if_false, Bool.false_eq_true]; exact r1 hd
    | false => simp -implicitDefEqProofs only [e_lookV, e_var, e_c, e_nil, e_cons, e_kEs1, e_kEs2, e_tup, e_kTup, e_lst, e_kLst, e_o2, e_kO1, e_kO2, e_o1, e_kU, e_oN, e_kN, e_neg, e_not, e_bl, e_kBool, e_blNil, e_blCons, e_onT, e_kBl, e_brBl1, e_brBl0, e_brBlN, e_cmp, e_kCmp, e_cNil, e_cCons, e_kCh1, e_kCh2n, e_kCh20, e_kCh21, e_call, e_kCall, e_new, e_kNew, e_kInit, e_meth, e_kMeth2, s_assign, s_kAsg, s_kE, s_setAttr, s_kSA1, s_expr, s_kExp, s_ret, s_kRet, s_ite, s_brS1, s_brS0, s_rais, s_try, s_kTry, s_brH1, s_kH, s_for, s_bOne, b_nil, b_cons, b_kSeqN, b_kSeqR, f_kFnN, f_kFnR, f_eFn, l_nil, l_cons, l_kFLN, d_set0, d_setS, d_get0, d_getS, d_bt, d_bf, d_nt, d_nf, d_gi, o_add, o_sub, o_mul, o_mod, o_fdiv, o_addS, o_mulS, o_idxT, o_sl, c_lt, c_le, c_ge, c_eqI, x_len, x_max2, x_intB, x_isiV, x_for, e_lstO, e_bm, e_kBm2, s_forX, s_kForX, e_xRange, e_xList, e_kComp, e_kCmpE0, e_mkLi, e_mkLo, x_kXR1, x_kXLi, x_bCmp, d_kCompF, d_bCmpF, d_kCF1, d_kCF0, d_kSome, d_listR, d_kListR2, List.map_cons, List.map_nil, List.cons_append, List.nil_append, List.replicate_succ, List.replicate_zero, Nat.reduceSub, Nat.reduceAdd, Int.reduceAbs, Nat.reduceLT, Nat.reducePow, Nat.reduceLeDiff, Int.reduceLE, Int.reduceLT, Int.le_refl, ne_eq, Int.reduceEq, not_false_eq_true, true_and, and_true, decide_true, decide_false, Int.reduceToNat, Int.toNat_zero, Int.toNat_one, List.getElem?_cons_succ, List.getElem?_cons_zero, if_true, if_false, Bool.false_eq_true]; exact r0 hd
  · rw [due_filter hb, List.nil_append]
    exact h
end Ap.L04
end
section
set_option Elab.async false
set_option maxRecDepth 100000
set_option maxHeartbeats 1000000
set_option linter.unusedVariables false
set_option linter.unusedSimpArgs false
namespace Ap.L04
open PySem
variable {d : Nat} {σ σ' : St} {Q : PQ} {E : PE}
structure One (p t r : Nat) (b : Int) (L : List AV) (σ : St) : Prop where
  p : σ p = some (Po b t)
  t : σ t = some (.list L)
  r : σ r = some (.list L)
  f : ∀ x ∈ L, Flat x
  b0 : 0 ≤ b
  b1 : b ≤ 20
structure Ad where
  p0 : Nat
  t0 : Nat
  r0 : Nat
  b0 : Int
  p1 : Nat
  t1 : Nat
  r1 : Nat
  b1 : Int
  o : Nat
structure Ds (A : Ad) : Prop where
  d1 : A.t0 ≠ A.r0
  d2 : A.t0 ≠ A.t1
  d3 : A.t0 ≠ A.r1
  d4 : A.r0 ≠ A.t1
  d5 : A.r0 ≠ A.r1
  d6 : A.t1 ≠ A.r1
  o1 : A.t0 ≠ A.o
  o2 : A.r0 ≠ A.o
  o3 : A.t1 ≠ A.o
  o4 : A.r1 ≠ A.o
structure Inv (A : Ad) (L0 L1 os : List AV) (σ : St) : Prop where
  k0 : One A.p0 A.t0 A.r0 A.b0 L0 σ
  k1 : One A.p1 A.t1 A.r1 A.b1 L1 σ
  o : σ A.o = some (.list os)
  olds : ∀ v ∈ os, ∃ a xs, v = .tup [.obj a, .ilist xs] ∧ σ a = some (.list xs) ∧ (a ≠ A.t0 ∧ a ≠ A.r0 ∧ a ≠ A.t1 ∧ a ≠ A.r1 ∧ a ≠ A.o) ∧ ∀ x ∈ xs, Flat x
variable {A : Ad} {L0 L1 os : List AV} {p t r : Nat} {b : Int} {L : List AV}
theorem One.ext (I : One p t r b L σ) {c : Nat} (hb : σ c = Option.none) (k : ∀ a, a ≠ c → σ' a = σ a) : One p t r b L σ' where
  p := (k _ (ne_of I.p hb)).trans I.p
  t := (k _ (ne_of I.t hb)).trans I.t
  r := (k _ (ne_of I.r hb)).trans I.r
  f := I.f
  b0 := I.b0
  b1 := I.b1
theorem Inv.ext (I : Inv A L0 L1 os σ) {c : Nat} (hb : σ c = Option.none) (k : ∀ a, a ≠ c → σ' a = σ a) : Inv A L0 L1 os σ' where
  k0 := I.k0.ext hb k
  k1 := I.k1.ext hb k
  o := (k _ (ne_of I.o hb)).trans I.o
  olds := fun v hv => by
    obtain ⟨a, xs, e, h1, h2, h3⟩ := I.olds v hv
    exact ⟨a, xs, e, (k _ (ne_of h1 hb)).trans h1, h2, h3⟩
theorem One.upd (I : One p t r b L σ) {c : Nat} {xs ys : List AV} (hc : σ c = some (.list xs)) (h1 : t ≠ c) (h2 : r ≠ c) : One p t r b L (upd σ c (.list ys)) where
  p := by rw [upd_ne' _ _ (fun q => by have := I.p; rw [q, hc] at this; cases this)]; exact I.p
  t := by rw [upd_ne' _ _ h1]; exact I.t
  r := by rw [upd_ne' _ _ h2]; exact I.r
  f := I.f
  b0 := I.b0
  b1 := I.b1
theorem Inv.old (X : Ds A) (I : Inv A L0 L1 os σ) {c : Nat} {ys : List AV} (hb : σ c = Option.none) (k : ∀ a, a ≠ c → σ' a = σ a) (h1 : σ' c = some (.list ys)) (hf : ∀ x ∈ ys, Flat x) :
    Inv A L0 L1 (os ++ [.tup [.obj c, .ilist ys]]) (upd σ' A.o (.list (os ++ [.tup [.obj c, .ilist ys]]))) := by
  have J := I.ext hb k
  refine ⟨J.k0.upd J.o X.o1 X.o2, J.k1.upd J.o X.o3 X.o4, upd_self' _ _ _, fun v hv => ?_⟩
  rcases List.mem_append.mp hv with hv | hv
  · obtain ⟨a, xs, e, h1, h2, h3⟩ := J.olds v hv
    exact ⟨a, xs, e, by rw [upd_ne' _ _ h2.2.2.2.2]; exact h1, h2, h3⟩
  · have nb : c ≠ A.o := Ne.symm (ne_of I.o hb)
    exact ⟨c, ys, List.mem_singleton.mp hv, by rw [upd_ne' _ _ nb]; exact h1, ⟨Ne.symm (ne_of I.k0.t hb), Ne.symm (ne_of I.k0.r hb), Ne.symm (ne_of I.k1.t hb), Ne.symm (ne_of I.k1.r hb), nb⟩, hf⟩
theorem range_flat {a b : Int} : ∀ x ∈ rangeL a b, Flat x := fun x hx => by
  obtain ⟨i, rfl, _⟩ := rangeL_mem hx
  exact .inr (.inl ⟨_, rfl⟩)
theorem more_flat {a b : Int} {s : Str} : ∀ x ∈ rangeL a b ++ [.str s], Flat x := fun x hx => by
  rcases List.mem_append.mp hx with hx | hx
  · exact range_flat x hx
  · exact .inl ⟨_, List.mem_singleton.mp hx⟩
theorem mask6 {a b c d e f : Option AV} : maskL [] [a, b, c, d, e, f] = [Option.none, Option.none, Option.none, Option.none, Option.none, Option.none] := rfl
theorem lthere_wp (X : Ds A) (I : Inv A L0 L1 os σ) (J : One p t r b L σ) (hl : L.length ≤ 1000) (ho : os.length ≤ 1000) (h : ∀ os' σ', os'.length ≤ os.length + 1 → Inv A L0 L1 os' σ' → Q (.bool true) σ') : wpF prg (d + 3) 13 [.obj p, .int b, .obj r, .obj A.o] σ Q E := by
  refine wpF_in (fi := fn13) rfl rfl ?_
  simp -implicitDefEqProofs only [fn13, w13, e_lookV, e_var, e_c, e_nil, e_cons, e_kEs1, e_kEs2, e_tup, e_kTup, e_lst, e_kLst, e_o2, e_kO1, e_kO2, e_o1, e_kU, e_oN, e_kN, e_neg, e_not, e_bl, e_kBool, e_blNil, e_blCons, e_onT, e_kBl, e_brBl1, e_brBl0, e_brBlN, e_cmp, e_kCmp, e_cNil, e_cCons, e_kCh1, e_kCh2n, e_kCh20, e_kCh21, e_call, e_kCall, e_new, e_kNew, e_kInit, e_meth, e_kMeth2, s_assign, s_kAsg, s_kE, s_setAttr, s_kSA1, s_expr, s_kExp, s_ret, s_kRet, s_ite, s_brS1, s_brS0, s_rais, s_try, s_kTry, s_brH1, s_kH, s_for, s_bOne, b_nil, b_cons, b_kSeqN, b_kSeqR, f_kFnN, f_kFnR, f_eFn, l_nil, l_cons, l_kFLN, d_set0, d_setS, d_get0, d_getS, d_bt, d_bf, d_nt, d_nf, d_gi, o_add, o_sub, o_mul, o_mod, o_fdiv, o_addS, o_mulS, o_idxT, o_sl, c_lt, c_le, c_ge, c_eqI, x_len, x_max2, x_intB, x_isiV, x_for, e_lstO, e_bm, e_kBm2, s_forX, s_kForX, e_xRange, e_xList, e_kComp, e_kCmpE0, e_mkLi, e_mkLo, x_kXR1, x_kXLi, x_bCmp, d_kCompF, d_bCmpF, d_kCF1, d_kCF0, d_kSome, d_listR, d_kListR2, List.map_cons, List.map_nil, List.cons_append, List.nil_append, List.replicate_succ, List.replicate_zero, Nat.reduceSub, Nat.reduceAdd, Int.reduceAbs, Nat.reduceLT, Nat.reducePow, Nat.reduceLeDiff, Int.reduceLE, Int.reduceLT, Int.le_refl, ne_eq, Int.reduceEq, not_false_eq_true, true_and, and_true, decide_true, decide_false, Int.reduceToNat, Int.toNat_zero, Int.toNat_one, List.getElem?_cons_succ, List.getElem?_cons_zero, if_true, if_false, Bool.false_eq_true, x_meth J.p (m := 2) rfl]
  refine there_wp J.b0 hl J.p J.t fun c hc => ?_
  have u0 := upd_self' σ c (.list (rangeL (fstB b L) L.length))
  have k0 : ∀ a, a ≠ c → upd σ c (.list (rangeL (fstB b L) L.length)) a = σ a := fun a ha => upd_ne' _ _ ha
  generalize upd σ c (.list (rangeL (fstB b L) L.length)) = σ1 at u0 k0
  have I1 := I.ext hc k0
  have J1 := J.ext hc k0
  simp -implicitDefEqProofs only [e_lookV, e_var, e_c, e_nil, e_cons, e_kEs1, e_kEs2, e_tup, e_kTup, e_lst, e_kLst, e_o2, e_kO1, e_kO2, e_o1, e_kU, e_oN, e_kN, e_neg, e_not, e_bl, e_kBool, e_blNil, e_blCons, e_onT, e_kBl, e_brBl1, e_brBl0, e_brBlN, e_cmp, e_kCmp, e_cNil, e_cCons, e_kCh1, e_kCh2n, e_kCh20, e_kCh21, e_call, e_kCall, e_new, e_kNew, e_kInit, e_meth, e_kMeth2, s_assign, s_kAsg, s_kE, s_setAttr, s_kSA1, s_expr, s_kExp, s_ret, s_kRet, s_ite, s_brS1, s_brS0, s_rais, s_try, s_kTry, s_brH1, s_kH, s_for, s_bOne, b_nil, b_cons, b_kSeqN, b_kSeqR, f_kFnN, f_kFnR, f_eFn, l_nil, l_cons, l_kFLN, d_set0, d_setS, d_get0, d_getS, d_bt, d_bf, d_nt, d_nf, d_gi, o_add, o_sub, o_mul, o_mod, o_fdiv, o_addS, o_mulS, o_idxT, o_sl, c_lt, c_le, c_ge, c_eqI, x_len, x_max2, x_intB, x_isiV, x_for, e_lstO, e_bm, e_kBm2, s_forX, s_kForX, e_xRange, e_xList, e_kComp, e_kCmpE0, e_mkLi, e_mkLo, x_kXR1, x_kXLi, x_bCmp, d_kCompF, d_bCmpF, d_kCF1, d_kCF0, d_kSome, d_listR, d_kListR2, List.map_cons, List.map_nil, List.cons_append, List.nil_append, List.replicate_succ, List.replicate_zero, Nat.reduceSub, Nat.reduceAdd, Int.reduceAbs, Nat.reduceLT, Nat.reducePow, Nat.reduceLeDiff, Int.reduceLE, Int.reduceLT, Int.le_refl, ne_eq, Int.reduceEq, not_false_eq_true, true_and, and_true, decide_true, decide_false, Int.reduceToNat, Int.toNat_zero, Int.toNat_one, List.getElem?_cons_succ, List.getElem?_cons_zero, if_true, if_false, Bool.false_eq_true, x_isiL u0]
  refine due_wp J.b0 hl J1.r ?_
  simp -implicitDefEqProofs only [e_lookV, e_var, e_c, e_nil, e_cons, e_kEs1, e_kEs2, e_tup, e_kTup, e_lst, e_kLst, e_o2, e_kO1, e_kO2, e_o1, e_kU, e_oN, e_kN, e_neg, e_not, e_bl, e_kBool, e_blNil, e_blCons, e_onT, e_kBl, e_brBl1, e_brBl0, e_brBlN, e_cmp, e_kCmp, e_cNil, e_cCons, e_kCh1, e_kCh2n, e_kCh20, e_kCh21, e_call, e_kCall, e_new, e_kNew, e_kInit, e_meth, e_kMeth2, s_assign, s_kAsg, s_kE, s_setAttr, s_kSA1, s_expr, s_kExp, s_ret, s_kRet, s_ite, s_brS1, s_brS0, s_rais, s_try, s_kTry, s_brH1, s_kH, s_for, s_bOne, b_nil, b_cons, b_kSeqN, b_kSeqR, f_kFnN, f_kFnR, f_eFn, l_nil, l_cons, l_kFLN, d_set0, d_setS, d_get0, d_getS, d_bt, d_bf, d_nt, d_nf, d_gi, o_add, o_sub, o_mul, o_mod, o_fdiv, o_addS, o_mulS, o_idxT, o_sl, c_lt, c_le, c_ge, c_eqI, x_len, x_max2, x_intB, x_isiV, x_for, e_lstO, e_bm, e_kBm2, s_forX, s_kForX, e_xRange, e_xList, e_kComp, e_kCmpE0, e_mkLi, e_mkLo, x_kXR1, x_kXLi, x_bCmp, d_kCompF, d_bCmpF, d_kCF1, d_kCF0, d_kSome, d_listR, d_kListR2, List.map_cons, List.map_nil, List.cons_append, List.nil_append, List.replicate_succ, List.replicate_zero, Nat.reduceSub, Nat.reduceAdd, Int.reduceAbs, Nat.reduceLT, Nat.reducePow, Nat.reduceLeDiff, Int.reduceLE, Int.reduceLT, Int.le_refl, ne_eq, Int.reduceEq, not_false_eq_true, true_and, and_true, decide_true, decide_false, Int.reduceToNat, Int.toNat_zero, Int.toNat_one, List.getElem?_cons_succ, List.getElem?_cons_zero, if_true, if_false, Bool.false_eq_true, x_neT (rd_o u0 range_flat) (rd_i range_flat) (eqv_self range_flat)]
  rw [e_comp]
  refine ⟨rfl, ?_⟩
  rw [mask6]
  simp -implicitDefEqProofs only [e_lookV, e_var, e_c, e_nil, e_cons, e_kEs1, e_kEs2, e_tup, e_kTup, e_lst, e_kLst, e_o2, e_kO1, e_kO2, e_o1, e_kU, e_oN, e_kN, e_neg, e_not, e_bl, e_kBool, e_blNil, e_blCons, e_onT, e_kBl, e_brBl1, e_brBl0, e_brBlN, e_cmp, e_kCmp, e_cNil, e_cCons, e_kCh1, e_kCh2n, e_kCh20, e_kCh21, e_call, e_kCall, e_new, e_kNew, e_kInit, e_meth, e_kMeth2, s_assign, s_kAsg, s_kE, s_setAttr, s_kSA1, s_expr, s_kExp, s_ret, s_kRet, s_ite, s_brS1, s_brS0, s_rais, s_try, s_kTry, s_brH1, s_kH, s_for, s_bOne, b_nil, b_cons, b_kSeqN, b_kSeqR, f_kFnN, f_kFnR, f_eFn, l_nil, l_cons, l_kFLN, d_set0, d_setS, d_get0, d_getS, d_bt, d_bf, d_nt, d_nf, d_gi, o_add, o_sub, o_mul, o_mod, o_fdiv, o_addS, o_mulS, o_idxT, o_sl, c_lt, c_le, c_ge, c_eqI, x_len, x_max2, x_intB, x_isiV, x_for, e_lstO, e_bm, e_kBm2, s_forX, s_kForX, e_xRange, e_xList, e_kComp, e_kCmpE0, e_mkLi, e_mkLo, x_kXR1, x_kXLi, x_bCmp, d_kCompF, d_bCmpF, d_kCF1, d_kCF0, d_kSome, d_listR, d_kListR2, List.map_cons, List.map_nil, List.cons_append, List.nil_append, List.replicate_succ, List.replicate_zero, Nat.reduceSub, Nat.reduceAdd, Int.reduceAbs, Nat.reduceLT, Nat.reducePow, Nat.reduceLeDiff, Int.reduceLE, Int.reduceLT, Int.le_refl, ne_eq, Int.reduceEq, not_false_eq_true, true_and, and_true, decide_true, decide_false, Int.reduceToNat, Int.toNat_zero, Int.toNat_one, List.getElem?_cons_succ, List.getElem?_cons_zero, if_true, if_false, Bool.false_eq_true, x_kXLo u0]
  refine compL_all (fun v => v = .bool true) u0 _ _ (fun x hx R hR => ?_) fun ys yl yt => ?_
  · obtain ⟨i, rfl, _⟩ := rangeL_mem hx
    simp -implicitDefEqProofs only [e_lookV, e_var, e_c, e_nil, e_cons, e_kEs1, e_kEs2, e_tup, e_kTup, e_lst, e_kLst, e_o2, e_kO1, e_kO2, e_o1, e_kU, e_oN, e_kN, e_neg, e_not, e_bl, e_kBool, e_blNil, e_blCons, e_onT, e_kBl, e_brBl1, e_brBl0, e_brBlN, e_cmp, e_kCmp, e_cNil, e_cCons, e_kCh1, e_kCh2n, e_kCh20, e_kCh21, e_call, e_kCall, e_new, e_kNew, e_kInit, e_meth, e_kMeth2, s_assign, s_kAsg, s_kE, s_setAttr, s_kSA1, s_expr, s_kExp, s_ret, s_kRet, s_ite, s_brS1, s_brS0, s_rais, s_try, s_kTry, s_brH1, s_kH, s_for, s_bOne, b_nil, b_cons, b_kSeqN, b_kSeqR, f_kFnN, f_kFnR, f_eFn, l_nil, l_cons, l_kFLN, d_set0, d_setS, d_get0, d_getS, d_bt, d_bf, d_nt, d_nf, d_gi, o_add, o_sub, o_mul, o_mod, o_fdiv, o_addS, o_mulS, o_idxT, o_sl, c_lt, c_le, c_ge, c_eqI, x_len, x_max2, x_intB, x_isiV, x_for, e_lstO, e_bm, e_kBm2, s_forX, s_kForX, e_xRange, e_xList, e_kComp, e_kCmpE0, e_mkLi, e_mkLo, x_kXR1, x_kXLi, x_bCmp, d_kCompF, d_bCmpF, d_kCF1, d_kCF0, d_kSome, d_listR, d_kListR2, List.map_cons, List.map_nil, List.cons_append, List.nil_append, List.replicate_succ, List.replicate_zero, Nat.reduceSub, Nat.reduceAdd, Int.reduceAbs, Nat.reduceLT, Nat.reducePow, Nat.reduceLeDiff, Int.reduceLE, Int.reduceLT, Int.le_refl, ne_eq, Int.reduceEq, not_false_eq_true, true_and, and_true, decide_true, decide_false, Int.reduceToNat, Int.toNat_zero, Int.toNat_one, List.getElem?_cons_succ, List.getElem?_cons_zero, if_true, if_false, Bool.false_eq_true]
    refine whole_wp rfl ?_
    exact hR _ rfl
  rw [List.nil_append]
  have rl : (rangeL (fstB b L) L.length).length ≤ 1000000 := by have := (fst_le (b := b) (L := L) J.b0).1; rw [rangeL_len]; omega
  have u2 := upd_self' σ1 c (.list (rangeL (fstB b L) L.length ++ [.str (Str.ofString "more")]))
  have k2 : ∀ a, a ≠ c → upd σ1 c (.list (rangeL (fstB b L) L.length ++ [.str (Str.ofString "more")])) a = σ a := fun a ha => (upd_ne' _ _ ha).trans (k0 a ha)
  simp -implicitDefEqProofs only [e_lookV, e_var, e_c, e_nil, e_cons, e_kEs1, e_kEs2, e_tup, e_kTup, e_lst, e_kLst, e_o2, e_kO1, e_kO2, e_o1, e_kU, e_oN, e_kN, e_neg, e_not, e_bl, e_kBool, e_blNil, e_blCons, e_onT, e_kBl, e_brBl1, e_brBl0, e_brBlN, e_cmp, e_kCmp, e_cNil, e_cCons, e_kCh1, e_kCh2n, e_kCh20, e_kCh21, e_call, e_kCall, e_new, e_kNew, e_kInit, e_meth, e_kMeth2, s_assign, s_kAsg, s_kE, s_setAttr, s_kSA1, s_expr, s_kExp, s_ret, s_kRet, s_ite, s_brS1, s_brS0, s_rais, s_try, s_kTry, s_brH1, s_kH, s_for, s_bOne, b_nil, b_cons, b_kSeqN, b_kSeqR, f_kFnN, f_kFnR, f_eFn, l_nil, l_cons, l_kFLN, d_set0, d_setS, d_get0, d_getS, d_bt, d_bf, d_nt, d_nf, d_gi, o_add, o_sub, o_mul, o_mod, o_fdiv, o_addS, o_mulS, o_idxT, o_sl, c_lt, c_le, c_ge, c_eqI, x_len, x_max2, x_intB, x_isiV, x_for, e_lstO, e_bm, e_kBm2, s_forX, s_kForX, e_xRange, e_xList, e_kComp, e_kCmpE0, e_mkLi, e_mkLo, x_kXR1, x_kXLi, x_bCmp, d_kCompF, d_bCmpF, d_kCF1, d_kCF0, d_kSome, d_listR, d_kListR2, List.map_cons, List.map_nil, List.cons_append, List.nil_append, List.replicate_succ, List.replicate_zero, Nat.reduceSub, Nat.reduceAdd, Int.reduceAbs, Nat.reduceLT, Nat.reducePow, Nat.reduceLeDiff, Int.reduceLE, Int.reduceLT, Int.le_refl, ne_eq, Int.reduceEq, not_false_eq_true, true_and, and_true, decide_true, decide_false, Int.reduceToNat, Int.toNat_zero, Int.toNat_one, List.getElem?_cons_succ, List.getElem?_cons_zero, if_true, if_false, Bool.false_eq_true, x_all yt, x_kBm (rc := rcL) (v := .obj c) (σ := σ1) ⟨_, _, rfl, u0⟩, x_append u0 rl]
  generalize upd σ1 c (.list (rangeL (fstB b L) L.length ++ [.str (Str.ofString "more")])) = σ2 at u2 k2 ⊢
  have I2 := I.ext hc k2
  simp -implicitDefEqProofs only [e_lookV, e_var, e_c, e_nil, e_cons, e_kEs1, e_kEs2, e_tup, e_kTup, e_lst, e_kLst, e_o2, e_kO1, e_kO2, e_o1, e_kU, e_oN, e_kN, e_neg, e_not, e_bl, e_kBool, e_blNil, e_blCons, e_onT, e_kBl, e_brBl1, e_brBl0, e_brBlN, e_cmp, e_kCmp, e_cNil, e_cCons, e_kCh1, e_kCh2n, e_kCh20, e_kCh21, e_call, e_kCall, e_new, e_kNew, e_kInit, e_meth, e_kMeth2, s_assign, s_kAsg, s_kE, s_setAttr, s_kSA1, s_expr, s_kExp, s_ret, s_kRet, s_ite, s_brS1, s_brS0, s_rais, s_try, s_kTry, s_brH1, s_kH, s_for, s_bOne, b_nil, b_cons, b_kSeqN, b_kSeqR, f_kFnN, f_kFnR, f_eFn, l_nil, l_cons, l_kFLN, d_set0, d_setS, d_get0, d_getS, d_bt, d_bf, d_nt, d_nf, d_gi, o_add, o_sub, o_mul, o_mod, o_fdiv, o_addS, o_mulS, o_idxT, o_sl, c_lt, c_le, c_ge, c_eqI, x_len, x_max2, x_intB, x_isiV, x_for, e_lstO, e_bm, e_kBm2, s_forX, s_kForX, e_xRange, e_xList, e_kComp, e_kCmpE0, e_mkLi, e_mkLo, x_kXR1, x_kXLi, x_bCmp, d_kCompF, d_bCmpF, d_kCF1, d_kCF0, d_kSome, d_listR, d_kListR2, List.map_cons, List.map_nil, List.cons_append, List.nil_append, List.replicate_succ, List.replicate_zero, Nat.reduceSub, Nat.reduceAdd, Int.reduceAbs, Nat.reduceLT, Nat.reducePow, Nat.reduceLeDiff, Int.reduceLE, Int.reduceLT, Int.le_refl, ne_eq, Int.reduceEq, not_false_eq_true, true_and, and_true, decide_true, decide_false, Int.reduceToNat, Int.toNat_zero, Int.toNat_one, List.getElem?_cons_succ, List.getElem?_cons_zero, if_true, if_false, Bool.false_eq_true, x_kBm (rc := rcL) (v := .obj A.o) (σ := σ2) ⟨_, _, rfl, I2.o⟩, x_listO u2, x_append I2.o (show os.length ≤ 1000000 by omega)]
  exact h _ _ (by rw [List.length_append]; simp) (I.old X hc k2 u2 more_flat)
theorem stands_wp (X : Ds A) (I : Inv A L0 L1 os σ) (s : ∀ os σ, Inv A L0 L1 os σ → One p t r b L σ) (hl : L.length ≤ 1000) (ho : os.length ≤ 900) {w : Int} (h : ∀ os' σ', os'.length ≤ os.length + 1 → Inv A L0 L1 os' σ' → Q (.bool true) σ') : wpF prg (d + 4) 14 [.obj p, .int b, .obj r, .obj A.o, .int w] σ Q E := by
  refine wpF_in (fi := fn14) rfl rfl ?_
  have J := s _ _ I
  -- the middle
  have mid : ∀ (os' : List AV) (σ' : St) (x5 : Option AV) (R : QS) (EE : ES), Inv A L0 L1 os' σ' → (∀ x5 : Option AV, (bCons (sRet (vBl (blCons false (vCmp (vVar 4) (cCons cEq (vC (.int 0)) cNil)) (blCons false (vCall (wpF prg (d + 3)) 13 (lCons (vVar 0) (lCons (vVar 1) (lCons (vVar 2) (lCons (vVar 3) lNil))))) (blNil false))))) bNil) [some (.obj p), some (.int b), some (.obj r), some (.obj A.o), some (.int w), x5] σ' R EE) →
      (bCons (sForX 5 (xList (vCall (wpF prg (d + 3)) 12 (lCons (vVar 1) (lCons (vVar 2) lNil)))) (bCons (sIte (vCmp (vCall (wpF prg (d + 3)) 10 (lCons (vVar 0) (lCons (vVar 5) lNil))) (cCons cNe (vTup (lCons (vC (.str (Str.ofString "told"))) (lCons (vO2 oIdxO (vVar 2) (vVar 5)) lNil))) cNil)) (bCons (sRet (vC (.bool false))) bNil) bNil) bNil)) (bCons (sIte (vCmp (vCall (wpF prg (d + 3)) 10 (lCons (vVar 0) (lCons (vON oLenO (lCons (vVar 2) lNil)) lNil))) (cCons cNe (vTup (lCons (vC (.str (Str.ofString "refused"))) (lCons (vC (.str (Str.ofString "letter"))) lNil))) cNil)) (bCons (sRet (vC (.bool false))) bNil) bNil) (bCons (sRet (vBl (blCons false (vCmp (vVar 4) (cCons cEq (vC (.int 0)) cNil)) (blCons false (vCall (wpF prg (d + 3)) 13 (lCons (vVar 0) (lCons (vVar 1) (lCons (vVar 2) (lCons (vVar 3) lNil))))) (blNil false))))) bNil))) [some (.obj p), some (.int b), some (.obj r), some (.obj A.o), some (.int w), x5] σ' R EE := by
    intro os' σ' x5 R EE I' h
    have J := s _ _ I'
    rw [b_cons, s_forX, e_xList]
    simp -implicitDefEqProofs only [e_call, e_cons, e_kEs1, e_kEs2, e_nil, e_kCall, e_var, e_lookV, d_get0, d_getS]
    refine due_wp J.b0 hl J.r ?_
    rw [x_kXLi, s_kForX]
    refine forL_idx (fun i ρ σ'' => σ'' = σ' ∧ ∃ x5, ρ = [some (.obj p), some (.int b), some (.obj r), some (.obj A.o), some (.int w), x5]) _ 0 ?_ ?_ _ _ ⟨rfl, _, rfl⟩
    · rintro i y hy ρ σ₁ R ⟨rfl, x5, rfl⟩ hR
      refine ⟨trivial, ?_⟩
      obtain ⟨i1, rfl⟩ := rangeL_at hy
      have f := fst_le (b := b) (L := L) J.b0
      have hi : (fstB b L + (i : Int)).toNat < L.length := by omega
      simp -implicitDefEqProofs only [e_lookV, e_var, e_c, e_nil, e_cons, e_kEs1, e_kEs2, e_tup, e_kTup, e_lst, e_kLst, e_o2, e_kO1, e_kO2, e_o1, e_kU, e_oN, e_kN, e_neg, e_not, e_bl, e_kBool, e_blNil, e_blCons, e_onT, e_kBl, e_brBl1, e_brBl0, e_brBlN, e_cmp, e_kCmp, e_cNil, e_cCons, e_kCh1, e_kCh2n, e_kCh20, e_kCh21, e_call, e_kCall, e_new, e_kNew, e_kInit, e_meth, e_kMeth2, s_assign, s_kAsg, s_kE, s_setAttr, s_kSA1, s_expr, s_kExp, s_ret, s_kRet, s_ite, s_brS1, s_brS0, s_rais, s_try, s_kTry, s_brH1, s_kH, s_for, s_bOne, b_nil, b_cons, b_kSeqN, b_kSeqR, f_kFnN, f_kFnR, f_eFn, l_nil, l_cons, l_kFLN, d_set0, d_setS, d_get0, d_getS, d_bt, d_bf, d_nt, d_nf, d_gi, o_add, o_sub, o_mul, o_mod, o_fdiv, o_addS, o_mulS, o_idxT, o_sl, c_lt, c_le, c_ge, c_eqI, x_len, x_max2, x_intB, x_isiV, x_for, e_lstO, e_bm, e_kBm2, s_forX, s_kForX, e_xRange, e_xList, e_kComp, e_kCmpE0, e_mkLi, e_mkLo, x_kXR1, x_kXLi, x_bCmp, d_kCompF, d_bCmpF, d_kCF1, d_kCF0, d_kSome, d_listR, d_kListR2, List.map_cons, List.map_nil, List.cons_append, List.nil_append, List.replicate_succ, List.replicate_zero, Nat.reduceSub, Nat.reduceAdd, Int.reduceAbs, Nat.reduceLT, Nat.reducePow, Nat.reduceLeDiff, Int.reduceLE, Int.reduceLT, Int.le_refl, ne_eq, Int.reduceEq, not_false_eq_true, true_and, and_true, decide_true, decide_false, Int.reduceToNat, Int.toNat_zero, Int.toNat_one, List.getElem?_cons_succ, List.getElem?_cons_zero, if_true, if_false, Bool.false_eq_true]
      refine said_yes J.b0 J.p J.t ⟨by omega, by omega⟩ (List.getElem?_eq_getElem hi) ?_
      simp -implicitDefEqProofs only [e_lookV, e_var, e_c, e_nil, e_cons, e_kEs1, e_kEs2, e_tup, e_kTup, e_lst, e_kLst, e_o2, e_kO1, e_kO2, e_o1, e_kU, e_oN, e_kN, e_neg, e_not, e_bl, e_kBool, e_blNil, e_blCons, e_onT, e_kBl, e_brBl1, e_brBl0, e_brBlN, e_cmp, e_kCmp, e_cNil, e_cCons, e_kCh1, e_kCh2n, e_kCh20, e_kCh21, e_call, e_kCall, e_new, e_kNew, e_kInit, e_meth, e_kMeth2, s_assign, s_kAsg, s_kE, s_setAttr, s_kSA1, s_expr, s_kExp, s_ret, s_kRet, s_ite, s_brS1, s_brS0, s_rais, s_try, s_kTry, s_brH1, s_kH, s_for, s_bOne, b_nil, b_cons, b_kSeqN, b_kSeqR, f_kFnN, f_kFnR, f_eFn, l_nil, l_cons, l_kFLN, d_set0, d_setS, d_get0, d_getS, d_bt, d_bf, d_nt, d_nf, d_gi, o_add, o_sub, o_mul, o_mod, o_fdiv, o_addS, o_mulS, o_idxT, o_sl, c_lt, c_le, c_ge, c_eqI, x_len, x_max2, x_intB, x_isiV, x_for, e_lstO, e_bm, e_kBm2, s_forX, s_kForX, e_xRange, e_xList, e_kComp, e_kCmpE0, e_mkLi, e_mkLo, x_kXR1, x_kXLi, x_bCmp, d_kCompF, d_bCmpF, d_kCF1, d_kCF0, d_kSome, d_listR, d_kListR2, List.map_cons, List.map_nil, List.cons_append, List.nil_append, List.replicate_succ, List.replicate_zero, Nat.reduceSub, Nat.reduceAdd, Int.reduceAbs, Nat.reduceLT, Nat.reducePow, Nat.reduceLeDiff, Int.reduceLE, Int.reduceLT, Int.le_refl, ne_eq, Int.reduceEq, not_false_eq_true, true_and, and_true, decide_true, decide_false, Int.reduceToNat, Int.toNat_zero, Int.toNat_one, List.getElem?_cons_succ, List.getElem?_cons_zero, if_true, if_false, Bool.false_eq_true, x_idxO J.r, List.getElem?_eq_getElem hi, ne_tf (J.f _ (List.getElem_mem hi))]
      exact ⟨by omega, hR _ _ ⟨rfl, _, rfl⟩⟩
    · rintro ρ σ₁ ⟨rfl, x5, rfl⟩
      refine ⟨trivial, ?_⟩
      rw [b_kSeqN, b_cons]
      simp -implicitDefEqProofs only [s_ite, s_kE, e_cmp, e_call, e_cons, e_kEs1, e_kEs2, e_nil, e_kCall, e_var, e_lookV, d_get0, d_getS, e_oN, e_kN, x_lenO J.r]
      refine said_no rfl J.p J.t (amongF (by omega)) ?_
      have := h x5
      simp -implicitDefEqProofs only [e_lookV, e_var, e_c, e_nil, e_cons, e_kEs1, e_kEs2, e_tup, e_kTup, e_lst, e_kLst, e_o2, e_kO1, e_kO2, e_o1, e_kU, e_oN, e_kN, e_neg, e_not, e_bl, e_kBool, e_blNil, e_blCons, e_onT, e_kBl, e_brBl1, e_brBl0, e_brBlN, e_cmp, e_kCmp, e_cNil, e_cCons, e_kCh1, e_kCh2n, e_kCh20, e_kCh21, e_call, e_kCall, e_new, e_kNew, e_kInit, e_meth, e_kMeth2, s_assign, s_kAsg, s_kE, s_setAttr, s_kSA1, s_expr, s_kExp, s_ret, s_kRet, s_ite, s_brS1, s_brS0, s_rais, s_try, s_kTry, s_brH1, s_kH, s_for, s_bOne, b_nil, b_cons, b_kSeqN, b_kSeqR, f_kFnN, f_kFnR, f_eFn, l_nil, l_cons, l_kFLN, d_set0, d_setS, d_get0, d_getS, d_bt, d_bf, d_nt, d_nf, d_gi, o_add, o_sub, o_mul, o_mod, o_fdiv, o_addS, o_mulS, o_idxT, o_sl, c_lt, c_le, c_ge, c_eqI, x_len, x_max2, x_intB, x_isiV, x_for, e_lstO, e_bm, e_kBm2, s_forX, s_kForX, e_xRange, e_xList, e_kComp, e_kCmpE0, e_mkLi, e_mkLo, x_kXR1, x_kXLi, x_bCmp, d_kCompF, d_bCmpF, d_kCF1, d_kCF0, d_kSome, d_listR, d_kListR2, List.map_cons, List.map_nil, List.cons_append, List.nil_append, List.replicate_succ, List.replicate_zero, Nat.reduceSub, Nat.reduceAdd, Int.reduceAbs, Nat.reduceLT, Nat.reducePow, Nat.reduceLeDiff, Int.reduceLE, Int.reduceLT, Int.le_refl, ne_eq, Int.reduceEq, not_false_eq_true, true_and, and_true, decide_true, decide_false, Int.reduceToNat, Int.toNat_zero, Int.toNat_one, List.getElem?_cons_succ, List.getElem?_cons_zero, if_true, if_false, Bool.false_eq_true, ne_ts] at this ⊢
      exact this
  simp -implicitDefEqProofs only [fn14, w14]
  rw [b_cons]
  simp -implicitDefEqProofs only [List.map_cons, List.map_nil, List.cons_append, List.nil_append, Nat.reduceSub, List.replicate_succ, List.replicate_zero, s_ite, e_cmp, e_var, e_lookV, d_get0, d_getS, e_kCmp, e_cCons, e_c, e_kCh1, c_eqI, e_kCh2n, e_kBool, e_onT]
  cases hw2 : (w == 2) with
  | true =>
    simp -implicitDefEqProofs only [e_lookV, e_var, e_c, e_nil, e_cons, e_kEs1, e_kEs2, e_tup, e_kTup, e_lst, e_kLst, e_o2, e_kO1, e_kO2, e_o1, e_kU, e_oN, e_kN, e_neg, e_not, e_bl, e_kBool, e_blNil, e_blCons, e_onT, e_kBl, e_brBl1, e_brBl0, e_brBlN, e_cmp, e_kCmp, e_cNil, e_cCons, e_kCh1, e_kCh2n, e_kCh20, e_kCh21, e_call, e_kCall, e_new, e_kNew, e_kInit, e_meth, e_kMeth2, s_assign, s_kAsg, s_kE, s_setAttr, s_kSA1, s_expr, s_kExp, s_ret, s_kRet, s_ite, s_brS1, s_brS0, s_rais, s_try, s_kTry, s_brH1, s_kH, s_for, s_bOne, b_nil, b_cons, b_kSeqN, b_kSeqR, f_kFnN, f_kFnR, f_eFn, l_nil, l_cons, l_kFLN, d_set0, d_setS, d_get0, d_getS, d_bt, d_bf, d_nt, d_nf, d_gi, o_add, o_sub, o_mul, o_mod, o_fdiv, o_addS, o_mulS, o_idxT, o_sl, c_lt, c_le, c_ge, c_eqI, x_len, x_max2, x_intB, x_isiV, x_for, e_lstO, e_bm, e_kBm2, s_forX, s_kForX, e_xRange, e_xList, e_kComp, e_kCmpE0, e_mkLi, e_mkLo, x_kXR1, x_kXLi, x_bCmp, d_kCompF, d_bCmpF, d_kCF1, d_kCF0, d_kSome, d_listR, d_kListR2, List.map_cons, List.map_nil, List.cons_append, List.nil_append, List.replicate_succ, List.replicate_zero, Nat.reduceSub, Nat.reduceAdd, Int.reduceAbs, Nat.reduceLT, Nat.reducePow, Nat.reduceLeDiff, Int.reduceLE, Int.reduceLT, Int.le_refl, ne_eq, Int.reduceEq, not_false_eq_true, true_and, and_true, decide_true, decide_false, Int.reduceToNat, Int.toNat_zero, Int.toNat_one, List.getElem?_cons_succ, List.getElem?_cons_zero, if_true, if_false, Bool.false_eq_true]
    exact h os σ (by omega) I
  | false =>
    simp -implicitDefEqProofs only [s_brS0, b_nil, b_kSeqN]
    rw [b_cons]
    simp -implicitDefEqProofs only [s_ite, e_bl, e_blCons, e_cmp, e_var, e_lookV, d_get0, d_getS, e_kCmp, e_cCons, e_c, e_kCh1, c_eqI, e_kCh2n, e_kBool, e_onT, e_kBl]
    cases hw0 : (w == 0) with
    | true =>
      simp -implicitDefEqProofs only [d_bt, e_brBl1, e_blCons, e_o1, e_call, e_cons, e_kEs1, e_kEs2, e_nil, e_kCall, e_var, e_lookV, d_get0, d_getS]
      refine lthere_wp X I J hl (by omega) fun os' σ' ol I' => ?_
      simp -implicitDefEqProofs only [e_kU, e_not, d_nt, e_onT, e_kBl, d_bt, e_brBl0, e_kBool, s_brS0, b_nil, b_kSeqN]
      refine mid os' σ' _ _ _ I' fun x5 => ?_
      simp -implicitDefEqProofs only [e_lookV, e_var, e_c, e_nil, e_cons, e_kEs1, e_kEs2, e_tup, e_kTup, e_lst, e_kLst, e_o2, e_kO1, e_kO2, e_o1, e_kU, e_oN, e_kN, e_neg, e_not, e_bl, e_kBool, e_blNil, e_blCons, e_onT, e_kBl, e_brBl1, e_brBl0, e_brBlN, e_cmp, e_kCmp, e_cNil, e_cCons, e_kCh1, e_kCh2n, e_kCh20, e_kCh21, e_call, e_kCall, e_new, e_kNew, e_kInit, e_meth, e_kMeth2, s_assign, s_kAsg, s_kE, s_setAttr, s_kSA1, s_expr, s_kExp, s_ret, s_kRet, s_ite, s_brS1, s_brS0, s_rais, s_try, s_kTry, s_brH1, s_kH, s_for, s_bOne, b_nil, b_cons, b_kSeqN, b_kSeqR, f_kFnN, f_kFnR, f_eFn, l_nil, l_cons, l_kFLN, d_set0, d_setS, d_get0, d_getS, d_bt, d_bf, d_nt, d_nf, d_gi, o_add, o_sub, o_mul, o_mod, o_fdiv, o_addS, o_mulS, o_idxT, o_sl, c_lt, c_le, c_ge, c_eqI, x_len, x_max2, x_intB, x_isiV, x_for, e_lstO, e_bm, e_kBm2, s_forX, s_kForX, e_xRange, e_xList, e_kComp, e_kCmpE0, e_mkLi, e_mkLo, x_kXR1, x_kXLi, x_bCmp, d_kCompF, d_bCmpF, d_kCF1, d_kCF0, d_kSome, d_listR, d_kListR2, List.map_cons, List.map_nil, List.cons_append, List.nil_append, List.replicate_succ, List.replicate_zero, Nat.reduceSub, Nat.reduceAdd, Int.reduceAbs, Nat.reduceLT, Nat.reducePow, Nat.reduceLeDiff, Int.reduceLE, Int.reduceLT, Int.le_refl, ne_eq, Int.reduceEq, not_false_eq_true, true_and, and_true, decide_true, decide_false, Int.reduceToNat, Int.toNat_zero, Int.toNat_one, List.getElem?_cons_succ, List.getElem?_cons_zero, if_true, if_false, Bool.false_eq_true, hw0]
      exact h os' σ' ol I'
    | false =>
      simp -implicitDefEqProofs only [d_bt, e_brBl0, e_kBool, e_onT, s_brS0, b_nil, b_kSeqN]
      refine mid os σ _ _ _ I fun x5 => ?_
      simp -implicitDefEqProofs only [e_lookV, e_var, e_c, e_nil, e_cons, e_kEs1, e_kEs2, e_tup, e_kTup, e_lst, e_kLst, e_o2, e_kO1, e_kO2, e_o1, e_kU, e_oN, e_kN, e_neg, e_not, e_bl, e_kBool, e_blNil, e_blCons, e_onT, e_kBl, e_brBl1, e_brBl0, e_brBlN, e_cmp, e_kCmp, e_cNil, e_cCons, e_kCh1, e_kCh2n, e_kCh20, e_kCh21, e_call, e_kCall, e_new, e_kNew, e_kInit, e_meth, e_kMeth2, s_assign, s_kAsg, s_kE, s_setAttr, s_kSA1, s_expr, s_kExp, s_ret, s_kRet, s_ite, s_brS1, s_brS0, s_rais, s_try, s_kTry, s_brH1, s_kH, s_for, s_bOne, b_nil, b_cons, b_kSeqN, b_kSeqR, f_kFnN, f_kFnR, f_eFn, l_nil, l_cons, l_kFLN, d_set0, d_setS, d_get0, d_getS, d_bt, d_bf, d_nt, d_nf, d_gi, o_add, o_sub, o_mul, o_mod, o_fdiv, o_addS, o_mulS, o_idxT, o_sl, c_lt, c_le, c_ge, c_eqI, x_len, x_max2, x_intB, x_isiV, x_for, e_lstO, e_bm, e_kBm2, s_forX, s_kForX, e_xRange, e_xList, e_kComp, e_kCmpE0, e_mkLi, e_mkLo, x_kXR1, x_kXLi, x_bCmp, d_kCompF, d_bCmpF, d_kCF1, d_kCF0, d_kSome, d_listR, d_kListR2, List.map_cons, List.map_nil, List.cons_append, List.nil_append, List.replicate_succ, List.replicate_zero, Nat.reduceSub, Nat.reduceAdd, Int.reduceAbs, Nat.reduceLT, Nat.reducePow, Nat.reduceLeDiff, Int.reduceLE, Int.reduceLT, Int.le_refl, ne_eq, Int.reduceEq, not_false_eq_true, true_and, and_true, decide_true, decide_false, Int.reduceToNat, Int.toNat_zero, Int.toNat_one, List.getElem?_cons_succ, List.getElem?_cons_zero, if_true, if_false, Bool.false_eq_true, hw0]
      refine lthere_wp X I J hl (by omega) fun os' σ' ol I' => ?_
      simp -implicitDefEqProofs only [e_lookV, e_var, e_c, e_nil, e_cons, e_kEs1, e_kEs2, e_tup, e_kTup, e_lst, e_kLst, e_o2, e_kO1, e_kO2, e_o1, e_kU, e_oN, e_kN, e_neg, e_not, e_bl, e_kBool, e_blNil, e_blCons, e_onT, e_kBl, e_brBl1, e_brBl0, e_brBlN, e_cmp, e_kCmp, e_cNil, e_cCons, e_kCh1, e_kCh2n, e_kCh20, e_kCh21, e_call, e_kCall, e_new, e_kNew, e_kInit, e_meth, e_kMeth2, s_assign, s_kAsg, s_kE, s_setAttr, s_kSA1, s_expr, s_kExp, s_ret, s_kRet, s_ite, s_brS1, s_brS0, s_rais, s_try, s_kTry, s_brH1, s_kH, s_for, s_bOne, b_nil, b_cons, b_kSeqN, b_kSeqR, f_kFnN, f_kFnR, f_eFn, l_nil, l_cons, l_kFLN, d_set0, d_setS, d_get0, d_getS, d_bt, d_bf, d_nt, d_nf, d_gi, o_add, o_sub, o_mul, o_mod, o_fdiv, o_addS, o_mulS, o_idxT, o_sl, c_lt, c_le, c_ge, c_eqI, x_len, x_max2, x_intB, x_isiV, x_for, e_lstO, e_bm, e_kBm2, s_forX, s_kForX, e_xRange, e_xList, e_kComp, e_kCmpE0, e_mkLi, e_mkLo, x_kXR1, x_kXLi, x_bCmp, d_kCompF, d_bCmpF, d_kCF1, d_kCF0, d_kSome, d_listR, d_kListR2, List.map_cons, List.map_nil, List.cons_append, List.nil_append, List.replicate_succ, List.replicate_zero, Nat.reduceSub, Nat.reduceAdd, Int.reduceAbs, Nat.reduceLT, Nat.reducePow, Nat.reduceLeDiff, Int.reduceLE, Int.reduceLT, Int.le_refl, ne_eq, Int.reduceEq, not_false_eq_true, true_and, and_true, decide_true, decide_false, Int.reduceToNat, Int.toNat_zero, Int.toNat_one, List.getElem?_cons_succ, List.getElem?_cons_zero, if_true, if_false, Bool.false_eq_true]
      exact h os' σ' ol I'
end Ap.L04
end
section
set_option Elab.async false
set_option maxRecDepth 100000
set_option maxHeartbeats 2000000
set_option linter.unusedVariables false
set_option linter.unusedSimpArgs false
namespace Ap.L04
open PySem
variable {d : Nat} {σ σ' : St} {Q : PQ} {E : PE}
variable {A : Ad} {L0 L1 os : List AV} {p t r : Nat} {b : Int} {L : List AV}
noncomputable def bEven (F : Calls) : WS := (bCons (sAssign 7 (vMeth F 9 4 3 (vO2 oIdxL (vVar 2) (vVar 6)) (lCons (vCall F 11 (lCons (vO2 oFdiv (vVar 5) (vC (.int 4))) lNil)) lNil))) (bCons (sIte (vBl (blCons false (vO1 oNot (vCall F 8 (lCons (vVar 7) lNil))) (blCons false (vCmp (vVar 7) (cCons cNe (vON oLenO (lCons (vO2 oIdxL (vVar 3) (vVar 6)) lNil)) cNil)) (blNil false)))) (bCons (sRet (vC (.bool false))) bNil) bNil) (bCons (sExpr (vBm rcL oAppend (vO2 oIdxL (vVar 3) (vVar 6)) (lCons (vCall F 11 (lCons (vO2 oFdiv (vVar 5) (vC (.int 4))) lNil)) lNil))) bNil)))
noncomputable def bOdd (F : Calls) : WS := (bCons (sAssign 8 (vO2 oIdxL (vVar 1) (vVar 6))) (bCons (sAssign 9 (vO2 oAdd (vO2 oSub (vO2 oSub (vON oLenO (lCons (vO2 oIdxL (vVar 3) (vVar 6)) lNil)) (vC (.int 2))) (vVar 8)) (vO2 oMod (vO2 oFdiv (vVar 5) (vC (.int 4))) (vO2 oAdd (vVar 8) (vC (.int 4)))))) (bCons (sAssign 10 (vTup (lCons (vC (.str (Str.ofString "refused"))) (lCons (vC (.str (Str.ofString "letter"))) lNil)))) (bCons (sIte (vCmp (vVar 9) (cCons cInL (vCall F 12 (lCons (vVar 8) (lCons (vO2 oIdxL (vVar 3) (vVar 6)) lNil))) cNil)) (bCons (sAssign 10 (vTup (lCons (vC (.str (Str.ofString "told"))) (lCons (vO2 oIdxO (vO2 oIdxL (vVar 3) (vVar 6)) (vVar 9)) lNil)))) bNil) bNil) (bCons (sIte (vCmp (vCall F 10 (lCons (vO2 oIdxL (vVar 2) (vVar 6)) (lCons (vVar 9) lNil))) (cCons cNe (vVar 10) cNil)) (bCons (sRet (vC (.bool false))) bNil) bNil) bNil)))))
noncomputable def bTail (F : Calls) : WS := (bCons (sForX 11 (xRange (lCons (vC (.int 2)) lNil)) (bCons (sIte (vO1 oNot (vCall F 14 (lCons (vO2 oIdxL (vVar 2) (vVar 11)) (lCons (vO2 oIdxL (vVar 1) (vVar 11)) (lCons (vO2 oIdxL (vVar 3) (vVar 11)) (lCons (vVar 4) (lCons (vO2 oMod (vO2 oFdiv (vVar 5) (vC (.int 84))) (vC (.int 3))) lNil))))))) (bCons (sRet (vC (.bool false))) bNil) bNil) bNil)) bNil)
noncomputable def bBody (F : Calls) : WS := (bCons (sAssign 6 (vO2 oMod (vO2 oFdiv (vVar 5) (vC (.int 2))) (vC (.int 2)))) (bCons (sIte (vCmp (vO2 oMod (vVar 5) (vC (.int 2))) (cCons cEq (vC (.int 0)) cNil)) (bEven F) (bOdd F)) (bTail F)))
theorem even_wp (J : One p t r b L σ) (tr : t ≠ r) (hl : L.length ≤ 1000) {w c : Int} (hw : 0 ≤ w) {P Rw : List AV} (hP : P[w.toNat]? = some (.obj p)) (hRw : Rw[w.toNat]? = some (.obj r)) {x0 x1 x4 x7 x8 x9 x10 x11 x12 x13 : Option AV} {R : QS} {EE : ES}
    (h : R .next [x0, x1, some (.ilist P), some (.ilist Rw), x4, some (.int c), some (.int w), some (.int L.length), x8, x9, x10, x11, x12, x13] (upd (upd σ t (.list (L ++ [thing (c.fdiv 4)]))) r (.list (L ++ [thing (c.fdiv 4)])))) :
    bEven (wpF prg (d + 1)) [x0, x1, some (.ilist P), some (.ilist Rw), x4, some (.int c), some (.int w), x7, x8, x9, x10, x11, x12, x13] σ R EE := by
  unfold bEven
  simp -implicitDefEqProofs only [e_lookV, e_var, e_c, e_nil, e_cons, e_kEs1, e_kEs2, e_tup, e_kTup, e_lst, e_kLst, e_o2, e_kO1, e_kO2, e_o1, e_kU, e_oN, e_kN, e_neg, e_not, e_bl, e_kBool, e_blNil, e_blCons, e_onT, e_kBl, e_brBl1, e_brBl0, e_brBlN, e_cmp, e_kCmp, e_cNil, e_cCons, e_kCh1, e_kCh2n, e_kCh20, e_kCh21, e_call, e_kCall, e_new, e_kNew, e_kInit, e_meth, e_kMeth2, s_assign, s_kAsg, s_kE, s_setAttr, s_kSA1, s_expr, s_kExp, s_ret, s_kRet, s_ite, s_brS1, s_brS0, s_rais, s_try, s_kTry, s_brH1, s_kH, s_for, s_bOne, b_nil, b_cons, b_kSeqN, b_kSeqR, f_kFnN, f_kFnR, f_eFn, l_nil, l_cons, l_kFLN, d_set0, d_setS, d_get0, d_getS, d_bt, d_bf, d_nt, d_nf, d_gi, o_add, o_sub, o_mul, o_mod, o_fdiv, o_addS, o_mulS, o_idxT, o_sl, c_lt, c_le, c_ge, c_eqI, x_len, x_max2, x_intB, x_isiV, x_for, e_lstO, e_bm, e_kBm2, s_forX, s_kForX, e_xRange, e_xList, e_kComp, e_kCmpE0, e_mkLi, e_mkLo, x_kXR1, x_kXLi, x_bCmp, d_kCompF, d_bCmpF, d_kCF1, d_kCF0, d_kSome, d_listR, d_kListR2, List.map_cons, List.map_nil, List.cons_append, List.nil_append, List.replicate_succ, List.replicate_zero, Nat.reduceSub, Nat.reduceAdd, Int.reduceAbs, Nat.reduceLT, Nat.reducePow, Nat.reduceLeDiff, Int.reduceLE, Int.reduceLT, Int.le_refl, ne_eq, Int.reduceEq, not_false_eq_true, true_and, and_true, decide_true, decide_false, Int.reduceToNat, Int.toNat_zero, Int.toNat_one, List.getElem?_cons_succ, List.getElem?_cons_zero, if_true, if_false, Bool.false_eq_true, i_l, hP, hw, x_meth J.p (m := 4) rfl]
  refine thing_wp ?_
  simp -implicitDefEqProofs only [e_lookV, e_var, e_c, e_nil, e_cons, e_kEs1, e_kEs2, e_tup, e_kTup, e_lst, e_kLst, e_o2, e_kO1, e_kO2, e_o1, e_kU, e_oN, e_kN, e_neg, e_not, e_bl, e_kBool, e_blNil, e_blCons, e_onT, e_kBl, e_brBl1, e_brBl0, e_brBlN, e_cmp, e_kCmp, e_cNil, e_cCons, e_kCh1, e_kCh2n, e_kCh20, e_kCh21, e_call, e_kCall, e_new, e_kNew, e_kInit, e_meth, e_kMeth2, s_assign, s_kAsg, s_kE, s_setAttr, s_kSA1, s_expr, s_kExp, s_ret, s_kRet, s_ite, s_brS1, s_brS0, s_rais, s_try, s_kTry, s_brH1, s_kH, s_for, s_bOne, b_nil, b_cons, b_kSeqN, b_kSeqR, f_kFnN, f_kFnR, f_eFn, l_nil, l_cons, l_kFLN, d_set0, d_setS, d_get0, d_getS, d_bt, d_bf, d_nt, d_nf, d_gi, o_add, o_sub, o_mul, o_mod, o_fdiv, o_addS, o_mulS, o_idxT, o_sl, c_lt, c_le, c_ge, c_eqI, x_len, x_max2, x_intB, x_isiV, x_for, e_lstO, e_bm, e_kBm2, s_forX, s_kForX, e_xRange, e_xList, e_kComp, e_kCmpE0, e_mkLi, e_mkLo, x_kXR1, x_kXLi, x_bCmp, d_kCompF, d_bCmpF, d_kCF1, d_kCF0, d_kSome, d_listR, d_kListR2, List.map_cons, List.map_nil, List.cons_append, List.nil_append, List.replicate_succ, List.replicate_zero, Nat.reduceSub, Nat.reduceAdd, Int.reduceAbs, Nat.reduceLT, Nat.reducePow, Nat.reduceLeDiff, Int.reduceLE, Int.reduceLT, Int.le_refl, ne_eq, Int.reduceEq, not_false_eq_true, true_and, and_true, decide_true, decide_false, Int.reduceToNat, Int.toNat_zero, Int.toNat_one, List.getElem?_cons_succ, List.getElem?_cons_zero, if_true, if_false, Bool.false_eq_true]
  refine posted_wp J.p J.t hl ?_
  have hr : upd σ t (.list (L ++ [thing (c.fdiv 4)])) r = some (.list L) := by rw [upd_ne' _ _ (Ne.symm tr)]; exact J.r
  simp -implicitDefEqProofs only [e_lookV, e_var, e_c, e_nil, e_cons, e_kEs1, e_kEs2, e_tup, e_kTup, e_lst, e_kLst, e_o2, e_kO1, e_kO2, e_o1, e_kU, e_oN, e_kN, e_neg, e_not, e_bl, e_kBool, e_blNil, e_blCons, e_onT, e_kBl, e_brBl1, e_brBl0, e_brBlN, e_cmp, e_kCmp, e_cNil, e_cCons, e_kCh1, e_kCh2n, e_kCh20, e_kCh21, e_call, e_kCall, e_new, e_kNew, e_kInit, e_meth, e_kMeth2, s_assign, s_kAsg, s_kE, s_setAttr, s_kSA1, s_expr, s_kExp, s_ret, s_kRet, s_ite, s_brS1, s_brS0, s_rais, s_try, s_kTry, s_brH1, s_kH, s_for, s_bOne, b_nil, b_cons, b_kSeqN, b_kSeqR, f_kFnN, f_kFnR, f_eFn, l_nil, l_cons, l_kFLN, d_set0, d_setS, d_get0, d_getS, d_bt, d_bf, d_nt, d_nf, d_gi, o_add, o_sub, o_mul, o_mod, o_fdiv, o_addS, o_mulS, o_idxT, o_sl, c_lt, c_le, c_ge, c_eqI, x_len, x_max2, x_intB, x_isiV, x_for, e_lstO, e_bm, e_kBm2, s_forX, s_kForX, e_xRange, e_xList, e_kComp, e_kCmpE0, e_mkLi, e_mkLo, x_kXR1, x_kXLi, x_bCmp, d_kCompF, d_bCmpF, d_kCF1, d_kCF0, d_kSome, d_listR, d_kListR2, List.map_cons, List.map_nil, List.cons_append, List.nil_append, List.replicate_succ, List.replicate_zero, Nat.reduceSub, Nat.reduceAdd, Int.reduceAbs, Nat.reduceLT, Nat.reducePow, Nat.reduceLeDiff, Int.reduceLE, Int.reduceLT, Int.le_refl, ne_eq, Int.reduceEq, not_false_eq_true, true_and, and_true, decide_true, decide_false, Int.reduceToNat, Int.toNat_zero, Int.toNat_one, List.getElem?_cons_succ, List.getElem?_cons_zero, if_true, if_false, Bool.false_eq_true]
  refine whole_wp rfl ?_
  simp -implicitDefEqProofs only [e_lookV, e_var, e_c, e_nil, e_cons, e_kEs1, e_kEs2, e_tup, e_kTup, e_lst, e_kLst, e_o2, e_kO1, e_kO2, e_o1, e_kU, e_oN, e_kN, e_neg, e_not, e_bl, e_kBool, e_blNil, e_blCons, e_onT, e_kBl, e_brBl1, e_brBl0, e_brBlN, e_cmp, e_kCmp, e_cNil, e_cCons, e_kCh1, e_kCh2n, e_kCh20, e_kCh21, e_call, e_kCall, e_new, e_kNew, e_kInit, e_meth, e_kMeth2, s_assign, s_kAsg, s_kE, s_setAttr, s_kSA1, s_expr, s_kExp, s_ret, s_kRet, s_ite, s_brS1, s_brS0, s_rais, s_try, s_kTry, s_brH1, s_kH, s_for, s_bOne, b_nil, b_cons, b_kSeqN, b_kSeqR, f_kFnN, f_kFnR, f_eFn, l_nil, l_cons, l_kFLN, d_set0, d_setS, d_get0, d_getS, d_bt, d_bf, d_nt, d_nf, d_gi, o_add, o_sub, o_mul, o_mod, o_fdiv, o_addS, o_mulS, o_idxT, o_sl, c_lt, c_le, c_ge, c_eqI, x_len, x_max2, x_intB, x_isiV, x_for, e_lstO, e_bm, e_kBm2, s_forX, s_kForX, e_xRange, e_xList, e_kComp, e_kCmpE0, e_mkLi, e_mkLo, x_kXR1, x_kXLi, x_bCmp, d_kCompF, d_bCmpF, d_kCF1, d_kCF0, d_kSome, d_listR, d_kListR2, List.map_cons, List.map_nil, List.cons_append, List.nil_append, List.replicate_succ, List.replicate_zero, Nat.reduceSub, Nat.reduceAdd, Int.reduceAbs, Nat.reduceLT, Nat.reducePow, Nat.reduceLeDiff, Int.reduceLE, Int.reduceLT, Int.le_refl, ne_eq, Int.reduceEq, not_false_eq_true, true_and, and_true, decide_true, decide_false, Int.reduceToNat, Int.toNat_zero, Int.toNat_one, List.getElem?_cons_succ, List.getElem?_cons_zero, if_true, if_false, Bool.false_eq_true, isInt, i_l, hRw, hw, x_lenO hr, c_neI, beq_self_eq_true, x_kBm (rc := rcL) (v := .obj r) (σ := upd σ t (.list (L ++ [thing (c.fdiv 4)]))) ⟨_, _, rfl, hr⟩]
  refine thing_wp ?_
  simp -implicitDefEqProofs only [e_lookV, e_var, e_c, e_nil, e_cons, e_kEs1, e_kEs2, e_tup, e_kTup, e_lst, e_kLst, e_o2, e_kO1, e_kO2, e_o1, e_kU, e_oN, e_kN, e_neg, e_not, e_bl, e_kBool, e_blNil, e_blCons, e_onT, e_kBl, e_brBl1, e_brBl0, e_brBlN, e_cmp, e_kCmp, e_cNil, e_cCons, e_kCh1, e_kCh2n, e_kCh20, e_kCh21, e_call, e_kCall, e_new, e_kNew, e_kInit, e_meth, e_kMeth2, s_assign, s_kAsg, s_kE, s_setAttr, s_kSA1, s_expr, s_kExp, s_ret, s_kRet, s_ite, s_brS1, s_brS0, s_rais, s_try, s_kTry, s_brH1, s_kH, s_for, s_bOne, b_nil, b_cons, b_kSeqN, b_kSeqR, f_kFnN, f_kFnR, f_eFn, l_nil, l_cons, l_kFLN, d_set0, d_setS, d_get0, d_getS, d_bt, d_bf, d_nt, d_nf, d_gi, o_add, o_sub, o_mul, o_mod, o_fdiv, o_addS, o_mulS, o_idxT, o_sl, c_lt, c_le, c_ge, c_eqI, x_len, x_max2, x_intB, x_isiV, x_for, e_lstO, e_bm, e_kBm2, s_forX, s_kForX, e_xRange, e_xList, e_kComp, e_kCmpE0, e_mkLi, e_mkLo, x_kXR1, x_kXLi, x_bCmp, d_kCompF, d_bCmpF, d_kCF1, d_kCF0, d_kSome, d_listR, d_kListR2, List.map_cons, List.map_nil, List.cons_append, List.nil_append, List.replicate_succ, List.replicate_zero, Nat.reduceSub, Nat.reduceAdd, Int.reduceAbs, Nat.reduceLT, Nat.reducePow, Nat.reduceLeDiff, Int.reduceLE, Int.reduceLT, Int.le_refl, ne_eq, Int.reduceEq, not_false_eq_true, true_and, and_true, decide_true, decide_false, Int.reduceToNat, Int.toNat_zero, Int.toNat_one, List.getElem?_cons_succ, List.getElem?_cons_zero, if_true, if_false, Bool.false_eq_true, x_append hr (show L.length ≤ 1000000 by omega)]
  exact h
theorem odd_wp (J : One p t r b L σ) (hl : L.length ≤ 1000) {w c : Int} (hw : 0 ≤ w) {P B Rw : List AV} (hP : P[w.toNat]? = some (.obj p)) (hB : B[w.toNat]? = some (.int b)) (hRw : Rw[w.toNat]? = some (.obj r)) {x0 x4 x7 x8 x9 x10 x11 x12 x13 : Option AV} {R : QS} {EE : ES}
    (h : ∀ x8 x9 x10, R .next [x0, some (.ilist B), some (.ilist P), some (.ilist Rw), x4, some (.int c), some (.int w), x7, x8, x9, x10, x11, x12, x13] σ) :
    bOdd (wpF prg (d + 3)) [x0, some (.ilist B), some (.ilist P), some (.ilist Rw), x4, some (.int c), some (.int w), x7, x8, x9, x10, x11, x12, x13] σ R EE := by
  unfold bOdd
  have bz := J.b0
  have b4 : b + 4 ≠ 0 := by omega
  simp -implicitDefEqProofs only [e_lookV, e_var, e_c, e_nil, e_cons, e_kEs1, e_kEs2, e_tup, e_kTup, e_lst, e_kLst, e_o2, e_kO1, e_kO2, e_o1, e_kU, e_oN, e_kN, e_neg, e_not, e_bl, e_kBool, e_blNil, e_blCons, e_onT, e_kBl, e_brBl1, e_brBl0, e_brBlN, e_cmp, e_kCmp, e_cNil, e_cCons, e_kCh1, e_kCh2n, e_kCh20, e_kCh21, e_call, e_kCall, e_new, e_kNew, e_kInit, e_meth, e_kMeth2, s_assign, s_kAsg, s_kE, s_setAttr, s_kSA1, s_expr, s_kExp, s_ret, s_kRet, s_ite, s_brS1, s_brS0, s_rais, s_try, s_kTry, s_brH1, s_kH, s_for, s_bOne, b_nil, b_cons, b_kSeqN, b_kSeqR, f_kFnN, f_kFnR, f_eFn, l_nil, l_cons, l_kFLN, d_set0, d_setS, d_get0, d_getS, d_bt, d_bf, d_nt, d_nf, d_gi, o_add, o_sub, o_mul, o_mod, o_fdiv, o_addS, o_mulS, o_idxT, o_sl, c_lt, c_le, c_ge, c_eqI, x_len, x_max2, x_intB, x_isiV, x_for, e_lstO, e_bm, e_kBm2, s_forX, s_kForX, e_xRange, e_xList, e_kComp, e_kCmpE0, e_mkLi, e_mkLo, x_kXR1, x_kXLi, x_bCmp, d_kCompF, d_bCmpF, d_kCF1, d_kCF0, d_kSome, d_listR, d_kListR2, List.map_cons, List.map_nil, List.cons_append, List.nil_append, List.replicate_succ, List.replicate_zero, Nat.reduceSub, Nat.reduceAdd, Int.reduceAbs, Nat.reduceLT, Nat.reducePow, Nat.reduceLeDiff, Int.reduceLE, Int.reduceLT, Int.le_refl, ne_eq, Int.reduceEq, not_false_eq_true, true_and, and_true, decide_true, decide_false, Int.reduceToNat, Int.toNat_zero, Int.toNat_one, List.getElem?_cons_succ, List.getElem?_cons_zero, if_true, if_false, Bool.false_eq_true, i_l, hB, hRw, hw, x_lenO J.r, b4]
  generalize (L.length : Int) - 2 - b + (c.fdiv 4).fmod (b + 4) = n
  refine due_wp bz hl J.r ?_
  simp -implicitDefEqProofs only [e_lookV, e_var, e_c, e_nil, e_cons, e_kEs1, e_kEs2, e_tup, e_kTup, e_lst, e_kLst, e_o2, e_kO1, e_kO2, e_o1, e_kU, e_oN, e_kN, e_neg, e_not, e_bl, e_kBool, e_blNil, e_blCons, e_onT, e_kBl, e_brBl1, e_brBl0, e_brBlN, e_cmp, e_kCmp, e_cNil, e_cCons, e_kCh1, e_kCh2n, e_kCh20, e_kCh21, e_call, e_kCall, e_new, e_kNew, e_kInit, e_meth, e_kMeth2, s_assign, s_kAsg, s_kE, s_setAttr, s_kSA1, s_expr, s_kExp, s_ret, s_kRet, s_ite, s_brS1, s_brS0, s_rais, s_try, s_kTry, s_brH1, s_kH, s_for, s_bOne, b_nil, b_cons, b_kSeqN, b_kSeqR, f_kFnN, f_kFnR, f_eFn, l_nil, l_cons, l_kFLN, d_set0, d_setS, d_get0, d_getS, d_bt, d_bf, d_nt, d_nf, d_gi, o_add, o_sub, o_mul, o_mod, o_fdiv, o_addS, o_mulS, o_idxT, o_sl, c_lt, c_le, c_ge, c_eqI, x_len, x_max2, x_intB, x_isiV, x_for, e_lstO, e_bm, e_kBm2, s_forX, s_kForX, e_xRange, e_xList, e_kComp, e_kCmpE0, e_mkLi, e_mkLo, x_kXR1, x_kXLi, x_bCmp, d_kCompF, d_bCmpF, d_kCF1, d_kCF0, d_kSome, d_listR, d_kListR2, List.map_cons, List.map_nil, List.cons_append, List.nil_append, List.replicate_succ, List.replicate_zero, Nat.reduceSub, Nat.reduceAdd, Int.reduceAbs, Nat.reduceLT, Nat.reducePow, Nat.reduceLeDiff, Int.reduceLE, Int.reduceLT, Int.le_refl, ne_eq, Int.reduceEq, not_false_eq_true, true_and, and_true, decide_true, decide_false, Int.reduceToNat, Int.toNat_zero, Int.toNat_one, List.getElem?_cons_succ, List.getElem?_cons_zero, if_true, if_false, Bool.false_eq_true, x_inL (rangeL_ints _ _), range_any]
  by_cases hn : fstB b L ≤ n ∧ n < L.length
  · have f := fst_le (b := b) (L := L) bz
    have hi : n.toNat < L.length := by omega
    have n0 : 0 ≤ n := by omega
    simp -implicitDefEqProofs only [e_lookV, e_var, e_c, e_nil, e_cons, e_kEs1, e_kEs2, e_tup, e_kTup, e_lst, e_kLst, e_o2, e_kO1, e_kO2, e_o1, e_kU, e_oN, e_kN, e_neg, e_not, e_bl, e_kBool, e_blNil, e_blCons, e_onT, e_kBl, e_brBl1, e_brBl0, e_brBlN, e_cmp, e_kCmp, e_cNil, e_cCons, e_kCh1, e_kCh2n, e_kCh20, e_kCh21, e_call, e_kCall, e_new, e_kNew, e_kInit, e_meth, e_kMeth2, s_assign, s_kAsg, s_kE, s_setAttr, s_kSA1, s_expr, s_kExp, s_ret, s_kRet, s_ite, s_brS1, s_brS0, s_rais, s_try, s_kTry, s_brH1, s_kH, s_for, s_bOne, b_nil, b_cons, b_kSeqN, b_kSeqR, f_kFnN, f_kFnR, f_eFn, l_nil, l_cons, l_kFLN, d_set0, d_setS, d_get0, d_getS, d_bt, d_bf, d_nt, d_nf, d_gi, o_add, o_sub, o_mul, o_mod, o_fdiv, o_addS, o_mulS, o_idxT, o_sl, c_lt, c_le, c_ge, c_eqI, x_len, x_max2, x_intB, x_isiV, x_for, e_lstO, e_bm, e_kBm2, s_forX, s_kForX, e_xRange, e_xList, e_kComp, e_kCmpE0, e_mkLi, e_mkLo, x_kXR1, x_kXLi, x_bCmp, d_kCompF, d_bCmpF, d_kCF1, d_kCF0, d_kSome, d_listR, d_kListR2, List.map_cons, List.map_nil, List.cons_append, List.nil_append, List.replicate_succ, List.replicate_zero, Nat.reduceSub, Nat.reduceAdd, Int.reduceAbs, Nat.reduceLT, Nat.reducePow, Nat.reduceLeDiff, Int.reduceLE, Int.reduceLT, Int.le_refl, ne_eq, Int.reduceEq, not_false_eq_true, true_and, and_true, decide_true, decide_false, Int.reduceToNat, Int.toNat_zero, Int.toNat_one, List.getElem?_cons_succ, List.getElem?_cons_zero, if_true, if_false, Bool.false_eq_true, hn, i_l, hRw, hP, hw, x_idxO J.r, n0, List.getElem?_eq_getElem hi]
    refine said_yes bz J.p J.t hn (List.getElem?_eq_getElem hi) ?_
    simp -implicitDefEqProofs only [e_lookV, e_var, e_c, e_nil, e_cons, e_kEs1, e_kEs2, e_tup, e_kTup, e_lst, e_kLst, e_o2, e_kO1, e_kO2, e_o1, e_kU, e_oN, e_kN, e_neg, e_not, e_bl, e_kBool, e_blNil, e_blCons, e_onT, e_kBl, e_brBl1, e_brBl0, e_brBlN, e_cmp, e_kCmp, e_cNil, e_cCons, e_kCh1, e_kCh2n, e_kCh20, e_kCh21, e_call, e_kCall, e_new, e_kNew, e_kInit, e_meth, e_kMeth2, s_assign, s_kAsg, s_kE, s_setAttr, s_kSA1, s_expr, s_kExp, s_ret, s_kRet, s_ite, s_brS1, s_brS0, s_rais, s_try, s_kTry, s_brH1, s_kH, s_for, s_bOne, b_nil, b_cons, b_kSeqN, b_kSeqR, f_kFnN, f_kFnR, f_eFn, l_nil, l_cons, l_kFLN, d_set0, d_setS, d_get0, d_getS, d_bt, d_bf, d_nt, d_nf, d_gi, o_add, o_sub, o_mul, o_mod, o_fdiv, o_addS, o_mulS, o_idxT, o_sl, c_lt, c_le, c_ge, c_eqI, x_len, x_max2, x_intB, x_isiV, x_for, e_lstO, e_bm, e_kBm2, s_forX, s_kForX, e_xRange, e_xList, e_kComp, e_kCmpE0, e_mkLi, e_mkLo, x_kXR1, x_kXLi, x_bCmp, d_kCompF, d_bCmpF, d_kCF1, d_kCF0, d_kSome, d_listR, d_kListR2, List.map_cons, List.map_nil, List.cons_append, List.nil_append, List.replicate_succ, List.replicate_zero, Nat.reduceSub, Nat.reduceAdd, Int.reduceAbs, Nat.reduceLT, Nat.reducePow, Nat.reduceLeDiff, Int.reduceLE, Int.reduceLT, Int.le_refl, ne_eq, Int.reduceEq, not_false_eq_true, true_and, and_true, decide_true, decide_false, Int.reduceToNat, Int.toNat_zero, Int.toNat_one, List.getElem?_cons_succ, List.getElem?_cons_zero, if_true, if_false, Bool.false_eq_true, ne_tf (J.f _ (List.getElem_mem hi))]
    exact h _ _ _
  · simp -implicitDefEqProofs only [e_lookV, e_var, e_c, e_nil, e_cons, e_kEs1, e_kEs2, e_tup, e_kTup, e_lst, e_kLst, e_o2, e_kO1, e_kO2, e_o1, e_kU, e_oN, e_kN, e_neg, e_not, e_bl, e_kBool, e_blNil, e_blCons, e_onT, e_kBl, e_brBl1, e_brBl0, e_brBlN, e_cmp, e_kCmp, e_cNil, e_cCons, e_kCh1, e_kCh2n, e_kCh20, e_kCh21, e_call, e_kCall, e_new, e_kNew, e_kInit, e_meth, e_kMeth2, s_assign, s_kAsg, s_kE, s_setAttr, s_kSA1, s_expr, s_kExp, s_ret, s_kRet, s_ite, s_brS1, s_brS0, s_rais, s_try, s_kTry, s_brH1, s_kH, s_for, s_bOne, b_nil, b_cons, b_kSeqN, b_kSeqR, f_kFnN, f_kFnR, f_eFn, l_nil, l_cons, l_kFLN, d_set0, d_setS, d_get0, d_getS, d_bt, d_bf, d_nt, d_nf, d_gi, o_add, o_sub, o_mul, o_mod, o_fdiv, o_addS, o_mulS, o_idxT, o_sl, c_lt, c_le, c_ge, c_eqI, x_len, x_max2, x_intB, x_isiV, x_for, e_lstO, e_bm, e_kBm2, s_forX, s_kForX, e_xRange, e_xList, e_kComp, e_kCmpE0, e_mkLi, e_mkLo, x_kXR1, x_kXLi, x_bCmp, d_kCompF, d_bCmpF, d_kCF1, d_kCF0, d_kSome, d_listR, d_kListR2, List.map_cons, List.map_nil, List.cons_append, List.nil_append, List.replicate_succ, List.replicate_zero, Nat.reduceSub, Nat.reduceAdd, Int.reduceAbs, Nat.reduceLT, Nat.reducePow, Nat.reduceLeDiff, Int.reduceLE, Int.reduceLT, Int.le_refl, ne_eq, Int.reduceEq, not_false_eq_true, true_and, and_true, decide_true, decide_false, Int.reduceToNat, Int.toNat_zero, Int.toNat_one, List.getElem?_cons_succ, List.getElem?_cons_zero, if_true, if_false, Bool.false_eq_true, hn, i_l, hP, hw]
    refine said_no rfl J.p J.t (amongF (by omega)) ?_
    simp -implicitDefEqProofs only [e_lookV, e_var, e_c, e_nil, e_cons, e_kEs1, e_kEs2, e_tup, e_kTup, e_lst, e_kLst, e_o2, e_kO1, e_kO2, e_o1, e_kU, e_oN, e_kN, e_neg, e_not, e_bl, e_kBool, e_blNil, e_blCons, e_onT, e_kBl, e_brBl1, e_brBl0, e_brBlN, e_cmp, e_kCmp, e_cNil, e_cCons, e_kCh1, e_kCh2n, e_kCh20, e_kCh21, e_call, e_kCall, e_new, e_kNew, e_kInit, e_meth, e_kMeth2, s_assign, s_kAsg, s_kE, s_setAttr, s_kSA1, s_expr, s_kExp, s_ret, s_kRet, s_ite, s_brS1, s_brS0, s_rais, s_try, s_kTry, s_brH1, s_kH, s_for, s_bOne, b_nil, b_cons, b_kSeqN, b_kSeqR, f_kFnN, f_kFnR, f_eFn, l_nil, l_cons, l_kFLN, d_set0, d_setS, d_get0, d_getS, d_bt, d_bf, d_nt, d_nf, d_gi, o_add, o_sub, o_mul, o_mod, o_fdiv, o_addS, o_mulS, o_idxT, o_sl, c_lt, c_le, c_ge, c_eqI, x_len, x_max2, x_intB, x_isiV, x_for, e_lstO, e_bm, e_kBm2, s_forX, s_kForX, e_xRange, e_xList, e_kComp, e_kCmpE0, e_mkLi, e_mkLo, x_kXR1, x_kXLi, x_bCmp, d_kCompF, d_bCmpF, d_kCF1, d_kCF0, d_kSome, d_listR, d_kListR2, List.map_cons, List.map_nil, List.cons_append, List.nil_append, List.replicate_succ, List.replicate_zero, Nat.reduceSub, Nat.reduceAdd, Int.reduceAbs, Nat.reduceLT, Nat.reducePow, Nat.reduceLeDiff, Int.reduceLE, Int.reduceLT, Int.le_refl, ne_eq, Int.reduceEq, not_false_eq_true, true_and, and_true, decide_true, decide_false, Int.reduceToNat, Int.toNat_zero, Int.toNat_one, List.getElem?_cons_succ, List.getElem?_cons_zero, if_true, if_false, Bool.false_eq_true, ne_ts]
    exact h _ _ _
theorem r02 : rangeL 0 2 = [.int 0, .int 1] := rfl
theorem tail_wp (X : Ds A) (I : Inv A L0 L1 os σ) (h0 : L0.length ≤ 1000) (h1 : L1.length ≤ 1000) (ho : os.length ≤ 800) {c : Int} {x0 x6 x7 x8 x9 x10 x11 x12 x13 : Option AV} {R : QS} {EE : ES}
    (h : ∀ os' σ' x11, os'.length ≤ os.length + 2 → Inv A L0 L1 os' σ' → R .next [x0, some (.ilist [.int A.b0, .int A.b1]), some (.ilist [.obj A.p0, .obj A.p1]), some (.ilist [.obj A.r0, .obj A.r1]), some (.obj A.o), some (.int c), x6, x7, x8, x9, x10, x11, x12, x13] σ') :
    bTail (wpF prg (d + 4)) [x0, some (.ilist [.int A.b0, .int A.b1]), some (.ilist [.obj A.p0, .obj A.p1]), some (.ilist [.obj A.r0, .obj A.r1]), some (.obj A.o), some (.int c), x6, x7, x8, x9, x10, x11, x12, x13] σ R EE := by
  unfold bTail
  simp -implicitDefEqProofs only [e_lookV, e_var, e_c, e_nil, e_cons, e_kEs1, e_kEs2, e_tup, e_kTup, e_lst, e_kLst, e_o2, e_kO1, e_kO2, e_o1, e_kU, e_oN, e_kN, e_neg, e_not, e_bl, e_kBool, e_blNil, e_blCons, e_onT, e_kBl, e_brBl1, e_brBl0, e_brBlN, e_cmp, e_kCmp, e_cNil, e_cCons, e_kCh1, e_kCh2n, e_kCh20, e_kCh21, e_call, e_kCall, e_new, e_kNew, e_kInit, e_meth, e_kMeth2, s_assign, s_kAsg, s_kE, s_setAttr, s_kSA1, s_expr, s_kExp, s_ret, s_kRet, s_ite, s_brS1, s_brS0, s_rais, s_try, s_kTry, s_brH1, s_kH, s_for, s_bOne, b_nil, b_cons, b_kSeqN, b_kSeqR, f_kFnN, f_kFnR, f_eFn, l_nil, l_cons, l_kFLN, d_set0, d_setS, d_get0, d_getS, d_bt, d_bf, d_nt, d_nf, d_gi, o_add, o_sub, o_mul, o_mod, o_fdiv, o_addS, o_mulS, o_idxT, o_sl, c_lt, c_le, c_ge, c_eqI, x_len, x_max2, x_intB, x_isiV, x_for, e_lstO, e_bm, e_kBm2, s_forX, s_kForX, e_xRange, e_xList, e_kComp, e_kCmpE0, e_mkLi, e_mkLo, x_kXR1, x_kXLi, x_bCmp, d_kCompF, d_bCmpF, d_kCF1, d_kCF0, d_kSome, d_listR, d_kListR2, List.map_cons, List.map_nil, List.cons_append, List.nil_append, List.replicate_succ, List.replicate_zero, Nat.reduceSub, Nat.reduceAdd, Int.reduceAbs, Nat.reduceLT, Nat.reducePow, Nat.reduceLeDiff, Int.reduceLE, Int.reduceLT, Int.le_refl, ne_eq, Int.reduceEq, not_false_eq_true, true_and, and_true, decide_true, decide_false, Int.reduceToNat, Int.toNat_zero, Int.toNat_one, List.getElem?_cons_succ, List.getElem?_cons_zero, if_true, if_false, Bool.false_eq_true, r02, i_l]
  refine stands_wp X I (fun _ _ I => I.k0) h0 (by omega) fun os1 σ1 l1 I1 => ?_
  simp -implicitDefEqProofs only [e_lookV, e_var, e_c, e_nil, e_cons, e_kEs1, e_kEs2, e_tup, e_kTup, e_lst, e_kLst, e_o2, e_kO1, e_kO2, e_o1, e_kU, e_oN, e_kN, e_neg, e_not, e_bl, e_kBool, e_blNil, e_blCons, e_onT, e_kBl, e_brBl1, e_brBl0, e_brBlN, e_cmp, e_kCmp, e_cNil, e_cCons, e_kCh1, e_kCh2n, e_kCh20, e_kCh21, e_call, e_kCall, e_new, e_kNew, e_kInit, e_meth, e_kMeth2, s_assign, s_kAsg, s_kE, s_setAttr, s_kSA1, s_expr, s_kExp, s_ret, s_kRet, s_ite, s_brS1, s_brS0, s_rais, s_try, s_kTry, s_brH1, s_kH, s_for, s_bOne, b_nil, b_cons, b_kSeqN, b_kSeqR, f_kFnN, f_kFnR, f_eFn, l_nil, l_cons, l_kFLN, d_set0, d_setS, d_get0, d_getS, d_bt, d_bf, d_nt, d_nf, d_gi, o_add, o_sub, o_mul, o_mod, o_fdiv, o_addS, o_mulS, o_idxT, o_sl, c_lt, c_le, c_ge, c_eqI, x_len, x_max2, x_intB, x_isiV, x_for, e_lstO, e_bm, e_kBm2, s_forX, s_kForX, e_xRange, e_xList, e_kComp, e_kCmpE0, e_mkLi, e_mkLo, x_kXR1, x_kXLi, x_bCmp, d_kCompF, d_bCmpF, d_kCF1, d_kCF0, d_kSome, d_listR, d_kListR2, List.map_cons, List.map_nil, List.cons_append, List.nil_append, List.replicate_succ, List.replicate_zero, Nat.reduceSub, Nat.reduceAdd, Int.reduceAbs, Nat.reduceLT, Nat.reducePow, Nat.reduceLeDiff, Int.reduceLE, Int.reduceLT, Int.le_refl, ne_eq, Int.reduceEq, not_false_eq_true, true_and, and_true, decide_true, decide_false, Int.reduceToNat, Int.toNat_zero, Int.toNat_one, List.getElem?_cons_succ, List.getElem?_cons_zero, if_true, if_false, Bool.false_eq_true, r02, i_l]
  refine stands_wp X I1 (fun _ _ I => I.k1) h1 (by omega) fun os2 σ2 l2 I2 => ?_
  simp -implicitDefEqProofs only [e_lookV, e_var, e_c, e_nil, e_cons, e_kEs1, e_kEs2, e_tup, e_kTup, e_lst, e_kLst, e_o2, e_kO1, e_kO2, e_o1, e_kU, e_oN, e_kN, e_neg, e_not, e_bl, e_kBool, e_blNil, e_blCons, e_onT, e_kBl, e_brBl1, e_brBl0, e_brBlN, e_cmp, e_kCmp, e_cNil, e_cCons, e_kCh1, e_kCh2n, e_kCh20, e_kCh21, e_call, e_kCall, e_new, e_kNew, e_kInit, e_meth, e_kMeth2, s_assign, s_kAsg, s_kE, s_setAttr, s_kSA1, s_expr, s_kExp, s_ret, s_kRet, s_ite, s_brS1, s_brS0, s_rais, s_try, s_kTry, s_brH1, s_kH, s_for, s_bOne, b_nil, b_cons, b_kSeqN, b_kSeqR, f_kFnN, f_kFnR, f_eFn, l_nil, l_cons, l_kFLN, d_set0, d_setS, d_get0, d_getS, d_bt, d_bf, d_nt, d_nf, d_gi, o_add, o_sub, o_mul, o_mod, o_fdiv, o_addS, o_mulS, o_idxT, o_sl, c_lt, c_le, c_ge, c_eqI, x_len, x_max2, x_intB, x_isiV, x_for, e_lstO, e_bm, e_kBm2, s_forX, s_kForX, e_xRange, e_xList, e_kComp, e_kCmpE0, e_mkLi, e_mkLo, x_kXR1, x_kXLi, x_bCmp, d_kCompF, d_bCmpF, d_kCF1, d_kCF0, d_kSome, d_listR, d_kListR2, List.map_cons, List.map_nil, List.cons_append, List.nil_append, List.replicate_succ, List.replicate_zero, Nat.reduceSub, Nat.reduceAdd, Int.reduceAbs, Nat.reduceLT, Nat.reducePow, Nat.reduceLeDiff, Int.reduceLE, Int.reduceLT, Int.le_refl, ne_eq, Int.reduceEq, not_false_eq_true, true_and, and_true, decide_true, decide_false, Int.reduceToNat, Int.toNat_zero, Int.toNat_one, List.getElem?_cons_succ, List.getElem?_cons_zero, if_true, if_false, Bool.false_eq_true]
  exact h os2 σ2 _ (by omega) I2
theorem flat_app {v : AV} (h : ∀ x ∈ L, Flat x) (hv : Flat v) : ∀ x ∈ L ++ [v], Flat x := fun x hx => by
  rcases List.mem_append.mp hx with hx | hx
  · exact h x hx
  · rw [List.mem_singleton.mp hx]; exact hv
theorem One.put (J : One p t r b L σ) (tr : t ≠ r) {v : AV} (hv : Flat v) : One p t r b (L ++ [v]) (Ap.upd (Ap.upd σ t (.list (L ++ [v]))) r (.list (L ++ [v]))) where
  p := by
    have n1 : p ≠ t := fun q => by have := J.p; rw [q, J.t] at this; cases this
    have n2 : p ≠ r := fun q => by have := J.p; rw [q, J.r] at this; cases this
    rw [upd_ne' _ _ n2, upd_ne' _ _ n1]; exact J.p
  t := by rw [upd_ne' _ _ tr]; exact upd_self' _ _ _
  r := upd_self' _ _ _
  f := flat_app J.f hv
  b0 := J.b0
  b1 := J.b1
theorem One.upd2 (J : One p t r b L σ) {t' r' : Nat} {xs ys zs : List AV} (ht : σ t' = some (.list xs)) (hr : σ r' = some (.list xs)) (tr : t' ≠ r') (h1 : t ≠ t') (h2 : t ≠ r') (h3 : r ≠ t') (h4 : r ≠ r') : One p t r b L (Ap.upd (Ap.upd σ t' (.list ys)) r' (.list zs)) :=
  (J.upd ht h1 h3).upd (by rw [upd_ne' _ _ (Ne.symm tr)]; exact hr) h2 h4
theorem Inv.put0 (X : Ds A) (I : Inv A L0 L1 os σ) {v : AV} (hv : Flat v) : Inv A (L0 ++ [v]) L1 os (upd (upd σ A.t0 (.list (L0 ++ [v]))) A.r0 (.list (L0 ++ [v]))) where
  k0 := I.k0.put X.d1 hv
  k1 := I.k1.upd2 I.k0.t I.k0.r X.d1 (Ne.symm X.d2) (Ne.symm X.d4) (Ne.symm X.d3) (Ne.symm X.d5)
  o := by rw [upd_ne' _ _ (Ne.symm X.o2), upd_ne' _ _ (Ne.symm X.o1)]; exact I.o
  olds := fun u hu => by
    obtain ⟨a, xs, e, h1, h2, h3⟩ := I.olds u hu
    exact ⟨a, xs, e, by rw [upd_ne' _ _ h2.2.1, upd_ne' _ _ h2.1]; exact h1, h2, h3⟩
theorem Inv.put1 (X : Ds A) (I : Inv A L0 L1 os σ) {v : AV} (hv : Flat v) : Inv A L0 (L1 ++ [v]) os (upd (upd σ A.t1 (.list (L1 ++ [v]))) A.r1 (.list (L1 ++ [v]))) where
  k0 := I.k0.upd2 I.k1.t I.k1.r X.d6 X.d2 X.d3 X.d4 X.d5
  k1 := I.k1.put X.d6 hv
  o := by rw [upd_ne' _ _ (Ne.symm X.o4), upd_ne' _ _ (Ne.symm X.o3)]; exact I.o
  olds := fun u hu => by
    obtain ⟨a, xs, e, h1, h2, h3⟩ := I.olds u hu
    exact ⟨a, xs, e, by rw [upd_ne' _ _ h2.2.2.2.1, upd_ne' _ _ h2.2.2.1]; exact h1, h2, h3⟩
theorem mod2 (a : Int) : a.fmod 2 = 0 ∨ a.fmod 2 = 1 := by
  have h0 := fmod_nn (a := a) (b := 2) (by decide)
  have h1 := fmod_lt (a := a) (b := 2) (by decide)
  omega
theorem turn_wp (X : Ds A) (I : Inv A L0 L1 os σ) (h0 : L0.length ≤ 900) (h1 : L1.length ≤ 900) (ho : os.length ≤ 800) {c : Int} {x0 x6 x7 x8 x9 x10 x11 x12 x13 : Option AV} {R : QS} {EE : ES}
    (h : ∀ L0' L1' os' σ' x6 x7 x8 x9 x10 x11, L0'.length ≤ L0.length + 1 → L1'.length ≤ L1.length + 1 → os'.length ≤ os.length + 2 → Inv A L0' L1' os' σ' → R .next [x0, some (.ilist [.int A.b0, .int A.b1]), some (.ilist [.obj A.p0, .obj A.p1]), some (.ilist [.obj A.r0, .obj A.r1]), some (.obj A.o), some (.int c), x6, x7, x8, x9, x10, x11, x12, x13] σ') :
    bBody (wpF prg (d + 4)) [x0, some (.ilist [.int A.b0, .int A.b1]), some (.ilist [.obj A.p0, .obj A.p1]), some (.ilist [.obj A.r0, .obj A.r1]), some (.obj A.o), some (.int c), x6, x7, x8, x9, x10, x11, x12, x13] σ R EE := by
  unfold bBody
  simp -implicitDefEqProofs only [e_lookV, e_var, e_c, e_nil, e_cons, e_kEs1, e_kEs2, e_tup, e_kTup, e_lst, e_kLst, e_o2, e_kO1, e_kO2, e_o1, e_kU, e_oN, e_kN, e_neg, e_not, e_bl, e_kBool, e_blNil, e_blCons, e_onT, e_kBl, e_brBl1, e_brBl0, e_brBlN, e_cmp, e_kCmp, e_cNil, e_cCons, e_kCh1, e_kCh2n, e_kCh20, e_kCh21, e_call, e_kCall, e_new, e_kNew, e_kInit, e_meth, e_kMeth2, s_assign, s_kAsg, s_kE, s_setAttr, s_kSA1, s_expr, s_kExp, s_ret, s_kRet, s_ite, s_brS1, s_brS0, s_rais, s_try, s_kTry, s_brH1, s_kH, s_for, s_bOne, b_nil, b_cons, b_kSeqN, b_kSeqR, f_kFnN, f_kFnR, f_eFn, l_nil, l_cons, l_kFLN, d_set0, d_setS, d_get0, d_getS, d_bt, d_bf, d_nt, d_nf, d_gi, o_add, o_sub, o_mul, o_mod, o_fdiv, o_addS, o_mulS, o_idxT, o_sl, c_lt, c_le, c_ge, c_eqI, x_len, x_max2, x_intB, x_isiV, x_for, e_lstO, e_bm, e_kBm2, s_forX, s_kForX, e_xRange, e_xList, e_kComp, e_kCmpE0, e_mkLi, e_mkLo, x_kXR1, x_kXLi, x_bCmp, d_kCompF, d_bCmpF, d_kCF1, d_kCF0, d_kSome, d_listR, d_kListR2, List.map_cons, List.map_nil, List.cons_append, List.nil_append, List.replicate_succ, List.replicate_zero, Nat.reduceSub, Nat.reduceAdd, Int.reduceAbs, Nat.reduceLT, Nat.reducePow, Nat.reduceLeDiff, Int.reduceLE, Int.reduceLT, Int.le_refl, ne_eq, Int.reduceEq, not_false_eq_true, true_and, and_true, decide_true, decide_false, Int.reduceToNat, Int.toNat_zero, Int.toNat_one, List.getElem?_cons_succ, List.getElem?_cons_zero, if_true, if_false, Bool.false_eq_true]
  cases hc : (c.fmod 2 == 0) with
  | true =>
    simp -implicitDefEqProofs only [e_lookV, e_var, e_c, e_nil, e_cons, e_kEs1, e_kEs2, e_tup, e_kTup, e_lst, e_kLst, e_o2, e_kO1, e_kO2, e_o1, e_kU, e_oN, e_kN, e_neg, e_not, e_bl, e_kBool, e_blNil, e_blCons, e_onT, e_kBl, e_brBl1, e_brBl0, e_brBlN, e_cmp, e_kCmp, e_cNil, e_cCons, e_kCh1, e_kCh2n, e_kCh20, e_kCh21, e_call, e_kCall, e_new, e_kNew, e_kInit, e_meth, e_kMeth2, s_assign, s_kAsg, s_kE, s_setAttr, s_kSA1, s_expr, s_kExp, s_ret, s_kRet, s_ite, s_brS1, s_brS0, s_rais, s_try, s_kTry, s_brH1, s_kH, s_for, s_bOne, b_nil, b_cons, b_kSeqN, b_kSeqR, f_kFnN, f_kFnR, f_eFn, l_nil, l_cons, l_kFLN, d_set0, d_setS, d_get0, d_getS, d_bt, d_bf, d_nt, d_nf, d_gi, o_add, o_sub, o_mul, o_mod, o_fdiv, o_addS, o_mulS, o_idxT, o_sl, c_lt, c_le, c_ge, c_eqI, x_len, x_max2, x_intB, x_isiV, x_for, e_lstO, e_bm, e_kBm2, s_forX, s_kForX, e_xRange, e_xList, e_kComp, e_kCmpE0, e_mkLi, e_mkLo, x_kXR1, x_kXLi, x_bCmp, d_kCompF, d_bCmpF, d_kCF1, d_kCF0, d_kSome, d_listR, d_kListR2, List.map_cons, List.map_nil, List.cons_append, List.nil_append, List.replicate_succ, List.replicate_zero, Nat.reduceSub, Nat.reduceAdd, Int.reduceAbs, Nat.reduceLT, Nat.reducePow, Nat.reduceLeDiff, Int.reduceLE, Int.reduceLT, Int.le_refl, ne_eq, Int.reduceEq, not_false_eq_true, true_and, and_true, decide_true, decide_false, Int.reduceToNat, Int.toNat_zero, Int.toNat_one, List.getElem?_cons_succ, List.getElem?_cons_zero, if_true, if_false, Bool.false_eq_true]
    rcases mod2 (c.fdiv 2) with e | e
    · rw [e]
      refine even_wp I.k0 X.d1 (by omega) (by decide) rfl rfl ?_
      simp -implicitDefEqProofs only [e_lookV, e_var, e_c, e_nil, e_cons, e_kEs1, e_kEs2, e_tup, e_kTup, e_lst, e_kLst, e_o2, e_kO1, e_kO2, e_o1, e_kU, e_oN, e_kN, e_neg, e_not, e_bl, e_kBool, e_blNil, e_blCons, e_onT, e_kBl, e_brBl1, e_brBl0, e_brBlN, e_cmp, e_kCmp, e_cNil, e_cCons, e_kCh1, e_kCh2n, e_kCh20, e_kCh21, e_call, e_kCall, e_new, e_kNew, e_kInit, e_meth, e_kMeth2, s_assign, s_kAsg, s_kE, s_setAttr, s_kSA1, s_expr, s_kExp, s_ret, s_kRet, s_ite, s_brS1, s_brS0, s_rais, s_try, s_kTry, s_brH1, s_kH, s_for, s_bOne, b_nil, b_cons, b_kSeqN, b_kSeqR, f_kFnN, f_kFnR, f_eFn, l_nil, l_cons, l_kFLN, d_set0, d_setS, d_get0, d_getS, d_bt, d_bf, d_nt, d_nf, d_gi, o_add, o_sub, o_mul, o_mod, o_fdiv, o_addS, o_mulS, o_idxT, o_sl, c_lt, c_le, c_ge, c_eqI, x_len, x_max2, x_intB, x_isiV, x_for, e_lstO, e_bm, e_kBm2, s_forX, s_kForX, e_xRange, e_xList, e_kComp, e_kCmpE0, e_mkLi, e_mkLo, x_kXR1, x_kXLi, x_bCmp, d_kCompF, d_bCmpF, d_kCF1, d_kCF0, d_kSome, d_listR, d_kListR2, List.map_cons, List.map_nil, List.cons_append, List.nil_append, List.replicate_succ, List.replicate_zero, Nat.reduceSub, Nat.reduceAdd, Int.reduceAbs, Nat.reduceLT, Nat.reducePow, Nat.reduceLeDiff, Int.reduceLE, Int.reduceLT, Int.le_refl, ne_eq, Int.reduceEq, not_false_eq_true, true_and, and_true, decide_true, decide_false, Int.reduceToNat, Int.toNat_zero, Int.toNat_one, List.getElem?_cons_succ, List.getElem?_cons_zero, if_true, if_false, Bool.false_eq_true]
      refine tail_wp X (I.put0 X (thing_flat _)) (by simp; omega) (by omega) (by omega) fun os' σ' x11 l1 I1 => ?_
      exact h _ _ _ _ _ _ _ _ _ _ (by simp) (by omega) l1 I1
    · rw [e]
      refine even_wp I.k1 X.d6 (by omega) (by decide) rfl rfl ?_
      simp -implicitDefEqProofs only [e_lookV, e_var, e_c, e_nil, e_cons, e_kEs1, e_kEs2, e_tup, e_kTup, e_lst, e_kLst, e_o2, e_kO1, e_kO2, e_o1, e_kU, e_oN, e_kN, e_neg, e_not, e_bl, e_kBool, e_blNil, e_blCons, e_onT, e_kBl, e_brBl1, e_brBl0, e_brBlN, e_cmp, e_kCmp, e_cNil, e_cCons, e_kCh1, e_kCh2n, e_kCh20, e_kCh21, e_call, e_kCall, e_new, e_kNew, e_kInit, e_meth, e_kMeth2, s_assign, s_kAsg, s_kE, s_setAttr, s_kSA1, s_expr, s_kExp, s_ret, s_kRet, s_ite, s_brS1, s_brS0, s_rais, s_try, s_kTry, s_brH1, s_kH, s_for, s_bOne, b_nil, b_cons, b_kSeqN, b_kSeqR, f_kFnN, f_kFnR, f_eFn, l_nil, l_cons, l_kFLN, d_set0, d_setS, d_get0, d_getS, d_bt, d_bf, d_nt, d_nf, d_gi, o_add, o_sub, o_mul, o_mod, o_fdiv, o_addS, o_mulS, o_idxT, o_sl, c_lt, c_le, c_ge, c_eqI, x_len, x_max2, x_intB, x_isiV, x_for, e_lstO, e_bm, e_kBm2, s_forX, s_kForX, e_xRange, e_xList, e_kComp, e_kCmpE0, e_mkLi, e_mkLo, x_kXR1, x_kXLi, x_bCmp, d_kCompF, d_bCmpF, d_kCF1, d_kCF0, d_kSome, d_listR, d_kListR2, List.map_cons, List.map_nil, List.cons_append, List.nil_append, List.replicate_succ, List.replicate_zero, Nat.reduceSub, Nat.reduceAdd, Int.reduceAbs, Nat.reduceLT, Nat.reducePow, Nat.reduceLeDiff, Int.reduceLE, Int.reduceLT, Int.le_refl, ne_eq, Int.reduceEq, not_false_eq_true, true_and, and_true, decide_true, decide_false, Int.reduceToNat, Int.toNat_zero, Int.toNat_one, List.getElem?_cons_succ, List.getElem?_cons_zero, if_true, if_false, Bool.false_eq_true]
      refine tail_wp X (I.put1 X (thing_flat _)) (by omega) (by simp; omega) (by omega) fun os' σ' x11 l1 I1 => ?_
      exact h _ _ _ _ _ _ _ _ _ _ (by omega) (by simp) l1 I1
  | false =>
    simp -implicitDefEqProofs only [e_lookV, e_var, e_c, e_nil, e_cons, e_kEs1, e_kEs2, e_tup, e_kTup, e_lst, e_kLst, e_o2, e_kO1, e_kO2, e_o1, e_kU, e_oN, e_kN, e_neg, e_not, e_bl, e_kBool, e_blNil, e_blCons, e_onT, e_kBl, e_brBl1, e_brBl0, e_brBlN, e_cmp, e_kCmp, e_cNil, e_cCons, e_kCh1, e_kCh2n, e_kCh20, e_kCh21, e_call, e_kCall, e_new, e_kNew, e_kInit, e_meth, e_kMeth2, s_assign, s_kAsg, s_kE, s_setAttr, s_kSA1, s_expr, s_kExp, s_ret, s_kRet, s_ite, s_brS1, s_brS0, s_rais, s_try, s_kTry, s_brH1, s_kH, s_for, s_bOne, b_nil, b_cons, b_kSeqN, b_kSeqR, f_kFnN, f_kFnR, f_eFn, l_nil, l_cons, l_kFLN, d_set0, d_setS, d_get0, d_getS, d_bt, d_bf, d_nt, d_nf, d_gi, o_add, o_sub, o_mul, o_mod, o_fdiv, o_addS, o_mulS, o_idxT, o_sl, c_lt, c_le, c_ge, c_eqI, x_len, x_max2, x_intB, x_isiV, x_for, e_lstO, e_bm, e_kBm2, s_forX, s_kForX, e_xRange, e_xList, e_kComp, e_kCmpE0, e_mkLi, e_mkLo, x_kXR1, x_kXLi, x_bCmp, d_kCompF, d_bCmpF, d_kCF1, d_kCF0, d_kSome, d_listR, d_kListR2, List.map_cons, List.map_nil, List.cons_append, List.nil_append, List.replicate_succ, List.replicate_zero, Nat.reduceSub, Nat.reduceAdd, Int.reduceAbs, Nat.reduceLT, Nat.reducePow, Nat.reduceLeDiff, Int.reduceLE, Int.reduceLT, Int.le_refl, ne_eq, Int.reduceEq, not_false_eq_true, true_and, and_true, decide_true, decide_false, Int.reduceToNat, Int.toNat_zero, Int.toNat_one, List.getElem?_cons_succ, List.getElem?_cons_zero, if_true, if_false, Bool.false_eq_true]
    rcases mod2 (c.fdiv 2) with e | e
    · rw [e]
      refine odd_wp I.k0 (by omega) (by decide) rfl rfl rfl fun x8 x9 x10 => ?_
      simp -implicitDefEqProofs only [e_lookV, e_var, e_c, e_nil, e_cons, e_kEs1, e_kEs2, e_tup, e_kTup, e_lst, e_kLst, e_o2, e_kO1, e_kO2, e_o1, e_kU, e_oN, e_kN, e_neg, e_not, e_bl, e_kBool, e_blNil, e_blCons, e_onT, e_kBl, e_brBl1, e_brBl0, e_brBlN, e_cmp, e_kCmp, e_cNil, e_cCons, e_kCh1, e_kCh2n, e_kCh20, e_kCh21, e_call, e_kCall, e_new, e_kNew, e_kInit, e_meth, e_kMeth2, s_assign, s_kAsg, s_kE, s_setAttr, s_kSA1, s_expr, s_kExp, s_ret, s_kRet, s_ite, s_brS1, s_brS0, s_rais, s_try, s_kTry, s_brH1, s_kH, s_for, s_bOne, b_nil, b_cons, b_kSeqN, b_kSeqR, f_kFnN, f_kFnR, f_eFn, l_nil, l_cons, l_kFLN, d_set0, d_setS, d_get0, d_getS, d_bt, d_bf, d_nt, d_nf, d_gi, o_add, o_sub, o_mul, o_mod, o_fdiv, o_addS, o_mulS, o_idxT, o_sl, c_lt, c_le, c_ge, c_eqI, x_len, x_max2, x_intB, x_isiV, x_for, e_lstO, e_bm, e_kBm2, s_forX, s_kForX, e_xRange, e_xList, e_kComp, e_kCmpE0, e_mkLi, e_mkLo, x_kXR1, x_kXLi, x_bCmp, d_kCompF, d_bCmpF, d_kCF1, d_kCF0, d_kSome, d_listR, d_kListR2, List.map_cons, List.map_nil, List.cons_append, List.nil_append, List.replicate_succ, List.replicate_zero, Nat.reduceSub, Nat.reduceAdd, Int.reduceAbs, Nat.reduceLT, Nat.reducePow, Nat.reduceLeDiff, Int.reduceLE, Int.reduceLT, Int.le_refl, ne_eq, Int.reduceEq, not_false_eq_true, true_and, and_true, decide_true, decide_false, Int.reduceToNat, Int.toNat_zero, Int.toNat_one, List.getElem?_cons_succ, List.getElem?_cons_zero, if_true, if_false, Bool.false_eq_true]
      refine tail_wp X I (by omega) (by omega) (by omega) fun os' σ' x11 l1 I1 => ?_
      exact h _ _ _ _ _ _ _ _ _ _ (by omega) (by omega) l1 I1
    · rw [e]
      refine odd_wp I.k1 (by omega) (by decide) rfl rfl rfl fun x8 x9 x10 => ?_
      simp -implicitDefEqProofs only [e_lookV, e_var, e_c, e_nil, e_cons, e_kEs1, e_kEs2, e_tup, e_kTup, e_lst, e_kLst, e_o2, e_kO1, e_kO2, e_o1, e_kU, e_oN, e_kN, e_neg, e_not, e_bl, e_kBool, e_blNil, e_blCons, e_onT, e_kBl, e_brBl1, e_brBl0, e_brBlN, e_cmp, e_kCmp, e_cNil, e_cCons, e_kCh1, e_kCh2n, e_kCh20, e_kCh21, e_call, e_kCall, e_new, e_kNew, e_kInit, e_meth, e_kMeth2, s_assign, s_kAsg, s_kE, s_setAttr, s_kSA1, s_expr, s_kExp, s_ret, s_kRet, s_ite, s_brS1, s_brS0, s_rais, s_try, s_kTry, s_brH1, s_kH, s_for, s_bOne, b_nil, b_cons, b_kSeqN, b_kSeqR, f_kFnN, f_kFnR, f_eFn, l_nil, l_cons, l_kFLN, d_set0, d_setS, d_get0, d_getS, d_bt, d_bf, d_nt, d_nf, d_gi, o_add, o_sub, o_mul, o_mod, o_fdiv, o_addS, o_mulS, o_idxT, o_sl, c_lt, c_le, c_ge, c_eqI, x_len, x_max2, x_intB, x_isiV, x_for, e_lstO, e_bm, e_kBm2, s_forX, s_kForX, e_xRange, e_xList, e_kComp, e_kCmpE0, e_mkLi, e_mkLo, x_kXR1, x_kXLi, x_bCmp, d_kCompF, d_bCmpF, d_kCF1, d_kCF0, d_kSome, d_listR, d_kListR2, List.map_cons, List.map_nil, List.cons_append, List.nil_append, List.replicate_succ, List.replicate_zero, Nat.reduceSub, Nat.reduceAdd, Int.reduceAbs, Nat.reduceLT, Nat.reducePow, Nat.reduceLeDiff, Int.reduceLE, Int.reduceLT, Int.le_refl, ne_eq, Int.reduceEq, not_false_eq_true, true_and, and_true, decide_true, decide_false, Int.reduceToNat, Int.toNat_zero, Int.toNat_one, List.getElem?_cons_succ, List.getElem?_cons_zero, if_true, if_false, Bool.false_eq_true]
      refine tail_wp X I (by omega) (by omega) (by omega) fun os' σ' x11 l1 I1 => ?_
      exact h _ _ _ _ _ _ _ _ _ _ (by omega) (by omega) l1 I1
end Ap.L04
end
section
set_option Elab.async false
set_option maxRecDepth 100000
set_option maxHeartbeats 2000000
set_option linter.unusedVariables false
set_option linter.unusedSimpArgs false
namespace Ap.L04
open PySem
variable {d : Nat} {σ σ' : St} {Q : PQ} {E : PE}
variable {A : Ad} {L0 L1 os : List AV} {p t r : Nat} {b : Int} {L : List AV}
theorem keep {a c : Nat} {o x : AObj} (h : σ a = some o) (hc : σ c = Option.none) : upd σ c x a = some o := by rw [upd_ne' _ _ (ne_of h hc)]; exact h
theorem mask14 {a b c d e f g h i j k l m n : Option AV} : maskL [0] [a, b, c, d, e, f, g, h, i, j, k, l, m, n] = [a, Option.none, Option.none, Option.none, Option.none, Option.none, Option.none, Option.none, Option.none, Option.none, Option.none, Option.none, Option.none, Option.none] := rfl
theorem mask14n {a b c d e f g h i j k l m n : Option AV} : maskL [] [a, b, c, d, e, f, g, h, i, j, k, l, m, n] = [Option.none, Option.none, Option.none, Option.none, Option.none, Option.none, Option.none, Option.none, Option.none, Option.none, Option.none, Option.none, Option.none, Option.none] := rfl
theorem law_wp (ns : List Int) (hn : ns.length ≤ 63) (h : ∀ σ, Q (.bool true) σ) : wpF prg 12 15 [.ilist (ns.map .int)] (fun _ => Option.none) Q E := by
  refine wpF_in (fi := fn15) rfl rfl ?_
  simp -implicitDefEqProofs only [fn15, w15, e_lookV, e_var, e_c, e_nil, e_cons, e_kEs1, e_kEs2, e_tup, e_kTup, e_lst, e_kLst, e_o2, e_kO1, e_kO2, e_o1, e_kU, e_oN, e_kN, e_neg, e_not, e_bl, e_kBool, e_blNil, e_blCons, e_onT, e_kBl, e_brBl1, e_brBl0, e_brBlN, e_cmp, e_kCmp, e_cNil, e_cCons, e_kCh1, e_kCh2n, e_kCh20, e_kCh21, e_call, e_kCall, e_new, e_kNew, e_kInit, e_meth, e_kMeth2, s_assign, s_kAsg, s_kE, s_setAttr, s_kSA1, s_expr, s_kExp, s_ret, s_kRet, s_ite, s_brS1, s_brS0, s_rais, s_try, s_kTry, s_brH1, s_kH, s_for, s_bOne, b_nil, b_cons, b_kSeqN, b_kSeqR, f_kFnN, f_kFnR, f_eFn, l_nil, l_cons, l_kFLN, d_set0, d_setS, d_get0, d_getS, d_bt, d_bf, d_nt, d_nf, d_gi, o_add, o_sub, o_mul, o_mod, o_fdiv, o_addS, o_mulS, o_idxT, o_sl, c_lt, c_le, c_ge, c_eqI, x_len, x_max2, x_intB, x_isiV, x_for, e_lstO, e_bm, e_kBm2, s_forX, s_kForX, e_xRange, e_xList, e_kComp, e_kCmpE0, e_mkLi, e_mkLo, x_kXR1, x_kXLi, x_bCmp, d_kCompF, d_bCmpF, d_kCF1, d_kCF0, d_kSome, d_listR, d_kListR2, List.map_cons, List.map_nil, List.cons_append, List.nil_append, List.replicate_succ, List.replicate_zero, Nat.reduceSub, Nat.reduceAdd, Int.reduceAbs, Nat.reduceLT, Nat.reducePow, Nat.reduceLeDiff, Int.reduceLE, Int.reduceLT, Int.le_refl, ne_eq, Int.reduceEq, not_false_eq_true, true_and, and_true, decide_true, decide_false, Int.reduceToNat, Int.toNat_zero, Int.toNat_one, List.getElem?_cons_succ, List.getElem?_cons_zero, if_true, if_false, Bool.false_eq_true]
  rw [e_comp]
  refine ⟨rfl, ?_⟩
  rw [mask14]
  simp -implicitDefEqProofs only [e_lookV, e_var, e_c, e_nil, e_cons, e_kEs1, e_kEs2, e_tup, e_kTup, e_lst, e_kLst, e_o2, e_kO1, e_kO2, e_o1, e_kU, e_oN, e_kN, e_neg, e_not, e_bl, e_kBool, e_blNil, e_blCons, e_onT, e_kBl, e_brBl1, e_brBl0, e_brBlN, e_cmp, e_kCmp, e_cNil, e_cCons, e_kCh1, e_kCh2n, e_kCh20, e_kCh21, e_call, e_kCall, e_new, e_kNew, e_kInit, e_meth, e_kMeth2, s_assign, s_kAsg, s_kE, s_setAttr, s_kSA1, s_expr, s_kExp, s_ret, s_kRet, s_ite, s_brS1, s_brS0, s_rais, s_try, s_kTry, s_brH1, s_kH, s_for, s_bOne, b_nil, b_cons, b_kSeqN, b_kSeqR, f_kFnN, f_kFnR, f_eFn, l_nil, l_cons, l_kFLN, d_set0, d_setS, d_get0, d_getS, d_bt, d_bf, d_nt, d_nf, d_gi, o_add, o_sub, o_mul, o_mod, o_fdiv, o_addS, o_mulS, o_idxT, o_sl, c_lt, c_le, c_ge, c_eqI, x_len, x_max2, x_intB, x_isiV, x_for, e_lstO, e_bm, e_kBm2, s_forX, s_kForX, e_xRange, e_xList, e_kComp, e_kCmpE0, e_mkLi, e_mkLo, x_kXR1, x_kXLi, x_bCmp, d_kCompF, d_bCmpF, d_kCF1, d_kCF0, d_kSome, d_listR, d_kListR2, List.map_cons, List.map_nil, List.cons_append, List.nil_append, List.replicate_succ, List.replicate_zero, Nat.reduceSub, Nat.reduceAdd, Int.reduceAbs, Nat.reduceLT, Nat.reducePow, Nat.reduceLeDiff, Int.reduceLE, Int.reduceLT, Int.le_refl, ne_eq, Int.reduceEq, not_false_eq_true, true_and, and_true, decide_true, decide_false, Int.reduceToNat, Int.toNat_zero, Int.toNat_one, List.getElem?_cons_succ, List.getElem?_cons_zero, if_true, if_false, Bool.false_eq_true]
  refine compL_all (fun v => ∃ b : Int, v = .int b ∧ 0 ≤ b ∧ b ≤ 20) trivial _ _ (fun x hx R hR => ?_) fun ys yl yt => ?_
  · obtain ⟨i, rfl, i0, i1⟩ := rangeL_mem hx
    simp -implicitDefEqProofs only [e_lookV, e_var, e_c, e_nil, e_cons, e_kEs1, e_kEs2, e_tup, e_kTup, e_lst, e_kLst, e_o2, e_kO1, e_kO2, e_o1, e_kU, e_oN, e_kN, e_neg, e_not, e_bl, e_kBool, e_blNil, e_blCons, e_onT, e_kBl, e_brBl1, e_brBl0, e_brBlN, e_cmp, e_kCmp, e_cNil, e_cCons, e_kCh1, e_kCh2n, e_kCh20, e_kCh21, e_call, e_kCall, e_new, e_kNew, e_kInit, e_meth, e_kMeth2, s_assign, s_kAsg, s_kE, s_setAttr, s_kSA1, s_expr, s_kExp, s_ret, s_kRet, s_ite, s_brS1, s_brS0, s_rais, s_try, s_kTry, s_brH1, s_kH, s_for, s_bOne, b_nil, b_cons, b_kSeqN, b_kSeqR, f_kFnN, f_kFnR, f_eFn, l_nil, l_cons, l_kFLN, d_set0, d_setS, d_get0, d_getS, d_bt, d_bf, d_nt, d_nf, d_gi, o_add, o_sub, o_mul, o_mod, o_fdiv, o_addS, o_mulS, o_idxT, o_sl, c_lt, c_le, c_ge, c_eqI, x_len, x_max2, x_intB, x_isiV, x_for, e_lstO, e_bm, e_kBm2, s_forX, s_kForX, e_xRange, e_xList, e_kComp, e_kCmpE0, e_mkLi, e_mkLo, x_kXR1, x_kXLi, x_bCmp, d_kCompF, d_bCmpF, d_kCF1, d_kCF0, d_kSome, d_listR, d_kListR2, List.map_cons, List.map_nil, List.cons_append, List.nil_append, List.replicate_succ, List.replicate_zero, Nat.reduceSub, Nat.reduceAdd, Int.reduceAbs, Nat.reduceLT, Nat.reducePow, Nat.reduceLeDiff, Int.reduceLE, Int.reduceLT, Int.le_refl, ne_eq, Int.reduceEq, not_false_eq_true, true_and, and_true, decide_true, decide_false, Int.reduceToNat, Int.toNat_zero, Int.toNat_one, List.getElem?_cons_succ, List.getElem?_cons_zero, if_true, if_false, Bool.false_eq_true]
    refine at_wp i.toNat (by omega) ?_
    simp -implicitDefEqProofs only [e_lookV, e_var, e_c, e_nil, e_cons, e_kEs1, e_kEs2, e_tup, e_kTup, e_lst, e_kLst, e_o2, e_kO1, e_kO2, e_o1, e_kU, e_oN, e_kN, e_neg, e_not, e_bl, e_kBool, e_blNil, e_blCons, e_onT, e_kBl, e_brBl1, e_brBl0, e_brBlN, e_cmp, e_kCmp, e_cNil, e_cCons, e_kCh1, e_kCh2n, e_kCh20, e_kCh21, e_call, e_kCall, e_new, e_kNew, e_kInit, e_meth, e_kMeth2, s_assign, s_kAsg, s_kE, s_setAttr, s_kSA1, s_expr, s_kExp, s_ret, s_kRet, s_ite, s_brS1, s_brS0, s_rais, s_try, s_kTry, s_brH1, s_kH, s_for, s_bOne, b_nil, b_cons, b_kSeqN, b_kSeqR, f_kFnN, f_kFnR, f_eFn, l_nil, l_cons, l_kFLN, d_set0, d_setS, d_get0, d_getS, d_bt, d_bf, d_nt, d_nf, d_gi, o_add, o_sub, o_mul, o_mod, o_fdiv, o_addS, o_mulS, o_idxT, o_sl, c_lt, c_le, c_ge, c_eqI, x_len, x_max2, x_intB, x_isiV, x_for, e_lstO, e_bm, e_kBm2, s_forX, s_kForX, e_xRange, e_xList, e_kComp, e_kCmpE0, e_mkLi, e_mkLo, x_kXR1, x_kXLi, x_bCmp, d_kCompF, d_bCmpF, d_kCF1, d_kCF0, d_kSome, d_listR, d_kListR2, List.map_cons, List.map_nil, List.cons_append, List.nil_append, List.replicate_succ, List.replicate_zero, Nat.reduceSub, Nat.reduceAdd, Int.reduceAbs, Nat.reduceLT, Nat.reducePow, Nat.reduceLeDiff, Int.reduceLE, Int.reduceLT, Int.le_refl, ne_eq, Int.reduceEq, not_false_eq_true, true_and, and_true, decide_true, decide_false, Int.reduceToNat, Int.toNat_zero, Int.toNat_one, List.getElem?_cons_succ, List.getElem?_cons_zero, if_true, if_false, Bool.false_eq_true]
    refine mixed_wp (by omega) ?_
    generalize (_ : Int).fmod 2147483647 = a
    simp -implicitDefEqProofs only [e_lookV, e_var, e_c, e_nil, e_cons, e_kEs1, e_kEs2, e_tup, e_kTup, e_lst, e_kLst, e_o2, e_kO1, e_kO2, e_o1, e_kU, e_oN, e_kN, e_neg, e_not, e_bl, e_kBool, e_blNil, e_blCons, e_onT, e_kBl, e_brBl1, e_brBl0, e_brBlN, e_cmp, e_kCmp, e_cNil, e_cCons, e_kCh1, e_kCh2n, e_kCh20, e_kCh21, e_call, e_kCall, e_new, e_kNew, e_kInit, e_meth, e_kMeth2, s_assign, s_kAsg, s_kE, s_setAttr, s_kSA1, s_expr, s_kExp, s_ret, s_kRet, s_ite, s_brS1, s_brS0, s_rais, s_try, s_kTry, s_brH1, s_kH, s_for, s_bOne, b_nil, b_cons, b_kSeqN, b_kSeqR, f_kFnN, f_kFnR, f_eFn, l_nil, l_cons, l_kFLN, d_set0, d_setS, d_get0, d_getS, d_bt, d_bf, d_nt, d_nf, d_gi, o_add, o_sub, o_mul, o_mod, o_fdiv, o_addS, o_mulS, o_idxT, o_sl, c_lt, c_le, c_ge, c_eqI, x_len, x_max2, x_intB, x_isiV, x_for, e_lstO, e_bm, e_kBm2, s_forX, s_kForX, e_xRange, e_xList, e_kComp, e_kCmpE0, e_mkLi, e_mkLo, x_kXR1, x_kXLi, x_bCmp, d_kCompF, d_bCmpF, d_kCF1, d_kCF0, d_kSome, d_listR, d_kListR2, List.map_cons, List.map_nil, List.cons_append, List.nil_append, List.replicate_succ, List.replicate_zero, Nat.reduceSub, Nat.reduceAdd, Int.reduceAbs, Nat.reduceLT, Nat.reducePow, Nat.reduceLeDiff, Int.reduceLE, Int.reduceLT, Int.le_refl, ne_eq, Int.reduceEq, not_false_eq_true, true_and, and_true, decide_true, decide_false, Int.reduceToNat, Int.toNat_zero, Int.toNat_one, List.getElem?_cons_succ, List.getElem?_cons_zero, if_true, if_false, Bool.false_eq_true]
    refine at_wp i.toNat (by omega) ?_
    simp -implicitDefEqProofs only [e_lookV, e_var, e_c, e_nil, e_cons, e_kEs1, e_kEs2, e_tup, e_kTup, e_lst, e_kLst, e_o2, e_kO1, e_kO2, e_o1, e_kU, e_oN, e_kN, e_neg, e_not, e_bl, e_kBool, e_blNil, e_blCons, e_onT, e_kBl, e_brBl1, e_brBl0, e_brBlN, e_cmp, e_kCmp, e_cNil, e_cCons, e_kCh1, e_kCh2n, e_kCh20, e_kCh21, e_call, e_kCall, e_new, e_kNew, e_kInit, e_meth, e_kMeth2, s_assign, s_kAsg, s_kE, s_setAttr, s_kSA1, s_expr, s_kExp, s_ret, s_kRet, s_ite, s_brS1, s_brS0, s_rais, s_try, s_kTry, s_brH1, s_kH, s_for, s_bOne, b_nil, b_cons, b_kSeqN, b_kSeqR, f_kFnN, f_kFnR, f_eFn, l_nil, l_cons, l_kFLN, d_set0, d_setS, d_get0, d_getS, d_bt, d_bf, d_nt, d_nf, d_gi, o_add, o_sub, o_mul, o_mod, o_fdiv, o_addS, o_mulS, o_idxT, o_sl, c_lt, c_le, c_ge, c_eqI, x_len, x_max2, x_intB, x_isiV, x_for, e_lstO, e_bm, e_kBm2, s_forX, s_kForX, e_xRange, e_xList, e_kComp, e_kCmpE0, e_mkLi, e_mkLo, x_kXR1, x_kXLi, x_bCmp, d_kCompF, d_bCmpF, d_kCF1, d_kCF0, d_kSome, d_listR, d_kListR2, List.map_cons, List.map_nil, List.cons_append, List.nil_append, List.replicate_succ, List.replicate_zero, Nat.reduceSub, Nat.reduceAdd, Int.reduceAbs, Nat.reduceLT, Nat.reducePow, Nat.reduceLeDiff, Int.reduceLE, Int.reduceLT, Int.le_refl, ne_eq, Int.reduceEq, not_false_eq_true, true_and, and_true, decide_true, decide_false, Int.reduceToNat, Int.toNat_zero, Int.toNat_one, List.getElem?_cons_succ, List.getElem?_cons_zero, if_true, if_false, Bool.false_eq_true]
    refine idx_all (fmod_nn (by decide)) (by have := fmod_lt (a := (ns.getD i.toNat 0).fdiv 64) (b := 2) (by decide); simp only [List.length_cons, List.length_nil]; omega) fun v hv => ?_
    obtain ⟨m, rfl, m0, m1⟩ : ∃ m : Int, v = .int m ∧ 0 < m ∧ m ≤ 21 := by
      simp only [List.mem_cons, List.not_mem_nil, or_false] at hv
      rcases hv with rfl | rfl <;> exact ⟨_, rfl, by decide, by decide⟩
    have mz : m ≠ 0 := by omega
    have n0 := fmod_nn (a := a) m0
    have n1 := fmod_lt (a := a) m0
    simp -implicitDefEqProofs only [e_lookV, e_var, e_c, e_nil, e_cons, e_kEs1, e_kEs2, e_tup, e_kTup, e_lst, e_kLst, e_o2, e_kO1, e_kO2, e_o1, e_kU, e_oN, e_kN, e_neg, e_not, e_bl, e_kBool, e_blNil, e_blCons, e_onT, e_kBl, e_brBl1, e_brBl0, e_brBlN, e_cmp, e_kCmp, e_cNil, e_cCons, e_kCh1, e_kCh2n, e_kCh20, e_kCh21, e_call, e_kCall, e_new, e_kNew, e_kInit, e_meth, e_kMeth2, s_assign, s_kAsg, s_kE, s_setAttr, s_kSA1, s_expr, s_kExp, s_ret, s_kRet, s_ite, s_brS1, s_brS0, s_rais, s_try, s_kTry, s_brH1, s_kH, s_for, s_bOne, b_nil, b_cons, b_kSeqN, b_kSeqR, f_kFnN, f_kFnR, f_eFn, l_nil, l_cons, l_kFLN, d_set0, d_setS, d_get0, d_getS, d_bt, d_bf, d_nt, d_nf, d_gi, o_add, o_sub, o_mul, o_mod, o_fdiv, o_addS, o_mulS, o_idxT, o_sl, c_lt, c_le, c_ge, c_eqI, x_len, x_max2, x_intB, x_isiV, x_for, e_lstO, e_bm, e_kBm2, s_forX, s_kForX, e_xRange, e_xList, e_kComp, e_kCmpE0, e_mkLi, e_mkLo, x_kXR1, x_kXLi, x_bCmp, d_kCompF, d_bCmpF, d_kCF1, d_kCF0, d_kSome, d_listR, d_kListR2, List.map_cons, List.map_nil, List.cons_append, List.nil_append, List.replicate_succ, List.replicate_zero, Nat.reduceSub, Nat.reduceAdd, Int.reduceAbs, Nat.reduceLT, Nat.reducePow, Nat.reduceLeDiff, Int.reduceLE, Int.reduceLT, Int.le_refl, ne_eq, Int.reduceEq, not_false_eq_true, true_and, and_true, decide_true, decide_false, Int.reduceToNat, Int.toNat_zero, Int.toNat_one, List.getElem?_cons_succ, List.getElem?_cons_zero, if_true, if_false, Bool.false_eq_true, mz]
    exact hR _ ⟨_, rfl, n0, by omega⟩
  obtain ⟨y0, y1, rfl⟩ : ∃ y0 y1, ys = [y0, y1] := by
    rw [rangeL_len] at yl
    match ys, yl with
    | [y0, y1], _ => exact ⟨y0, y1, rfl⟩
  obtain ⟨b0, rfl, b00, b01⟩ := yt y0 List.mem_cons_self
  obtain ⟨b1, rfl, b10, b11⟩ := yt y1 (List.mem_cons_of_mem _ List.mem_cons_self)
  simp -implicitDefEqProofs only [e_lookV, e_var, e_c, e_nil, e_cons, e_kEs1, e_kEs2, e_tup, e_kTup, e_lst, e_kLst, e_o2, e_kO1, e_kO2, e_o1, e_kU, e_oN, e_kN, e_neg, e_not, e_bl, e_kBool, e_blNil, e_blCons, e_onT, e_kBl, e_brBl1, e_brBl0, e_brBlN, e_cmp, e_kCmp, e_cNil, e_cCons, e_kCh1, e_kCh2n, e_kCh20, e_kCh21, e_call, e_kCall, e_new, e_kNew, e_kInit, e_meth, e_kMeth2, s_assign, s_kAsg, s_kE, s_setAttr, s_kSA1, s_expr, s_kExp, s_ret, s_kRet, s_ite, s_brS1, s_brS0, s_rais, s_try, s_kTry, s_brH1, s_kH, s_for, s_bOne, b_nil, b_cons, b_kSeqN, b_kSeqR, f_kFnN, f_kFnR, f_eFn, l_nil, l_cons, l_kFLN, d_set0, d_setS, d_get0, d_getS, d_bt, d_bf, d_nt, d_nf, d_gi, o_add, o_sub, o_mul, o_mod, o_fdiv, o_addS, o_mulS, o_idxT, o_sl, c_lt, c_le, c_ge, c_eqI, x_len, x_max2, x_intB, x_isiV, x_for, e_lstO, e_bm, e_kBm2, s_forX, s_kForX, e_xRange, e_xList, e_kComp, e_kCmpE0, e_mkLi, e_mkLo, x_kXR1, x_kXLi, x_bCmp, d_kCompF, d_bCmpF, d_kCF1, d_kCF0, d_kSome, d_listR, d_kListR2, List.map_cons, List.map_nil, List.cons_append, List.nil_append, List.replicate_succ, List.replicate_zero, Nat.reduceSub, Nat.reduceAdd, Int.reduceAbs, Nat.reduceLT, Nat.reducePow, Nat.reduceLeDiff, Int.reduceLE, Int.reduceLT, Int.le_refl, ne_eq, Int.reduceEq, not_false_eq_true, true_and, and_true, decide_true, decide_false, Int.reduceToNat, Int.toNat_zero, Int.toNat_one, List.getElem?_cons_succ, List.getElem?_cons_zero, if_true, if_false, Bool.false_eq_true, i_l]
  intro p0 hp0
  refine init_wp (upd_self' _ _ _) fun t0 σ1 ht0 tp0 s1p s1t s1k => ?_
  simp -implicitDefEqProofs only [e_lookV, e_var, e_c, e_nil, e_cons, e_kEs1, e_kEs2, e_tup, e_kTup, e_lst, e_kLst, e_o2, e_kO1, e_kO2, e_o1, e_kU, e_oN, e_kN, e_neg, e_not, e_bl, e_kBool, e_blNil, e_blCons, e_onT, e_kBl, e_brBl1, e_brBl0, e_brBlN, e_cmp, e_kCmp, e_cNil, e_cCons, e_kCh1, e_kCh2n, e_kCh20, e_kCh21, e_call, e_kCall, e_new, e_kNew, e_kInit, e_meth, e_kMeth2, s_assign, s_kAsg, s_kE, s_setAttr, s_kSA1, s_expr, s_kExp, s_ret, s_kRet, s_ite, s_brS1, s_brS0, s_rais, s_try, s_kTry, s_brH1, s_kH, s_for, s_bOne, b_nil, b_cons, b_kSeqN, b_kSeqR, f_kFnN, f_kFnR, f_eFn, l_nil, l_cons, l_kFLN, d_set0, d_setS, d_get0, d_getS, d_bt, d_bf, d_nt, d_nf, d_gi, o_add, o_sub, o_mul, o_mod, o_fdiv, o_addS, o_mulS, o_idxT, o_sl, c_lt, c_le, c_ge, c_eqI, x_len, x_max2, x_intB, x_isiV, x_for, e_lstO, e_bm, e_kBm2, s_forX, s_kForX, e_xRange, e_xList, e_kComp, e_kCmpE0, e_mkLi, e_mkLo, x_kXR1, x_kXLi, x_bCmp, d_kCompF, d_bCmpF, d_kCF1, d_kCF0, d_kSome, d_listR, d_kListR2, List.map_cons, List.map_nil, List.cons_append, List.nil_append, List.replicate_succ, List.replicate_zero, Nat.reduceSub, Nat.reduceAdd, Int.reduceAbs, Nat.reduceLT, Nat.reducePow, Nat.reduceLeDiff, Int.reduceLE, Int.reduceLT, Int.le_refl, ne_eq, Int.reduceEq, not_false_eq_true, true_and, and_true, decide_true, decide_false, Int.reduceToNat, Int.toNat_zero, Int.toNat_one, List.getElem?_cons_succ, List.getElem?_cons_zero, if_true, if_false, Bool.false_eq_true, i_l]
  intro p1 hp1
  have q1p := keep (x := .inst 9 []) s1p hp1
  have q1t := keep (x := .inst 9 []) s1t hp1
  refine init_wp (upd_self' _ _ _) fun t1 σ2 ht1 tp1 s2p s2t s2k => ?_
  have s2p0 : σ2 p0 = some (Po b0 t0) := (s2k _ (ne_of s1p hp1) (ne_of q1p ht1)).trans q1p
  have s2t0 : σ2 t0 = some (.list []) := (s2k _ (ne_of s1t hp1) (ne_of q1t ht1)).trans q1t
  have tt : t0 ≠ t1 := ne_of q1t ht1
  simp -implicitDefEqProofs only [e_lookV, e_var, e_c, e_nil, e_cons, e_kEs1, e_kEs2, e_tup, e_kTup, e_lst, e_kLst, e_o2, e_kO1, e_kO2, e_o1, e_kU, e_oN, e_kN, e_neg, e_not, e_bl, e_kBool, e_blNil, e_blCons, e_onT, e_kBl, e_brBl1, e_brBl0, e_brBlN, e_cmp, e_kCmp, e_cNil, e_cCons, e_kCh1, e_kCh2n, e_kCh20, e_kCh21, e_call, e_kCall, e_new, e_kNew, e_kInit, e_meth, e_kMeth2, s_assign, s_kAsg, s_kE, s_setAttr, s_kSA1, s_expr, s_kExp, s_ret, s_kRet, s_ite, s_brS1, s_brS0, s_rais, s_try, s_kTry, s_brH1, s_kH, s_for, s_bOne, b_nil, b_cons, b_kSeqN, b_kSeqR, f_kFnN, f_kFnR, f_eFn, l_nil, l_cons, l_kFLN, d_set0, d_setS, d_get0, d_getS, d_bt, d_bf, d_nt, d_nf, d_gi, o_add, o_sub, o_mul, o_mod, o_fdiv, o_addS, o_mulS, o_idxT, o_sl, c_lt, c_le, c_ge, c_eqI, x_len, x_max2, x_intB, x_isiV, x_for, e_lstO, e_bm, e_kBm2, s_forX, s_kForX, e_xRange, e_xList, e_kComp, e_kCmpE0, e_mkLi, e_mkLo, x_kXR1, x_kXLi, x_bCmp, d_kCompF, d_bCmpF, d_kCF1, d_kCF0, d_kSome, d_listR, d_kListR2, List.map_cons, List.map_nil, List.cons_append, List.nil_append, List.replicate_succ, List.replicate_zero, Nat.reduceSub, Nat.reduceAdd, Int.reduceAbs, Nat.reduceLT, Nat.reducePow, Nat.reduceLeDiff, Int.reduceLE, Int.reduceLT, Int.le_refl, ne_eq, Int.reduceEq, not_false_eq_true, true_and, and_true, decide_true, decide_false, Int.reduceToNat, Int.toNat_zero, Int.toNat_one, List.getElem?_cons_succ, List.getElem?_cons_zero, if_true, if_false, Bool.false_eq_true]
  intro r0 hr0 r1 hr1 o ho
  have a1 := keep (x := .list []) s2p0 hr0
  have a2 := keep (x := .list []) s2t0 hr0
  have a3 := keep (x := .list []) s2p hr0
  have a4 := keep (x := .list []) s2t hr0
  have a5 := upd_self' σ2 r0 (.list [])
  have e1 : t0 ≠ r0 := ne_of s2t0 hr0
  have e2 : t1 ≠ r0 := ne_of s2t hr0
  generalize upd σ2 r0 (.list []) = σ3 at a1 a2 a3 a4 a5 hr1 ho ⊢
  have c1 := keep (x := .list []) a1 hr1
  have c2 := keep (x := .list []) a2 hr1
  have c3 := keep (x := .list []) a3 hr1
  have c4 := keep (x := .list []) a4 hr1
  have c5 := keep (x := .list []) a5 hr1
  have c6 := upd_self' σ3 r1 (.list [])
  have e3 : t0 ≠ r1 := ne_of a2 hr1
  have e4 : t1 ≠ r1 := ne_of a4 hr1
  have e5 : r0 ≠ r1 := ne_of a5 hr1
  generalize upd σ3 r1 (.list []) = σ4 at c1 c2 c3 c4 c5 c6 ho ⊢
  have X : Ds ⟨p0, t0, r0, b0, p1, t1, r1, b1, o⟩ := ⟨e1, tt, e3, Ne.symm e2, e5, e4, ne_of c2 ho, ne_of c5 ho, ne_of c4 ho, ne_of c6 ho⟩
  have I : Inv ⟨p0, t0, r0, b0, p1, t1, r1, b1, o⟩ [] [] [] (upd σ4 o (.list [])) :=
    ⟨⟨keep c1 ho, keep c2 ho, keep c5 ho, (fun _ h => nomatch h), b00, b01⟩, ⟨keep c3 ho, keep c4 ho, keep c6 ho, (fun _ h => nomatch h), b10, b11⟩, upd_self' _ _ _, fun _ h => nomatch h⟩
  generalize upd σ4 o (.list []) = σ5 at I ⊢
  refine forL_idx (fun i ρ σ' => ∃ L0 L1 os x5 x6 x7 x8 x9 x10 x11, ρ = [some (.ilist (ns.map .int)), some (.ilist [.int b0, .int b1]), some (.ilist [.obj p0, .obj p1]), some (.ilist [.obj r0, .obj r1]), some (.obj o), x5, x6, x7, x8, x9, x10, x11, Option.none, Option.none] ∧ Inv ⟨p0, t0, r0, b0, p1, t1, r1, b1, o⟩ L0 L1 os σ' ∧ L0.length ≤ i ∧ L1.length ≤ i ∧ os.length ≤ 2 * i) _ 0 ?_ ?_ _ _ ⟨[], [], [], _, _, _, _, _, _, _, rfl, I, Nat.le_refl _, Nat.le_refl _, Nat.le_refl _⟩
  · rintro i y hy ρ σ₁ R ⟨L0, L1, os, x5, x6, x7, x8, x9, x10, x11, rfl, I1, l0, l1, l2⟩ hR
    refine ⟨trivial, ?_⟩
    have hl := (List.getElem?_eq_some_iff.mp hy).1
    rw [List.length_drop, List.length_take] at hl
    obtain ⟨c, -, rfl⟩ := List.mem_map.mp (List.mem_of_mem_take (List.mem_of_mem_drop (List.mem_of_getElem? hy)))
    refine turn_wp (d := 7) (c := c) X I1 (by omega) (by omega) (by omega) fun L0' L1' os' σ' x6 x7 x8 x9 x10 x11 m0 m1 m2 I2 => ?_
    exact hR _ _ ⟨L0', L1', os', _, _, _, _, _, _, _, rfl, I2, by omega, by omega, by omega⟩
  · rintro ρ σ₁ ⟨L0, L1, os, x5, x6, x7, x8, x9, x10, x11, rfl, I1, l0, l1, l2⟩
    refine ⟨trivial, ?_⟩
    simp -implicitDefEqProofs only [e_lookV, e_var, e_c, e_nil, e_cons, e_kEs1, e_kEs2, e_tup, e_kTup, e_lst, e_kLst, e_o2, e_kO1, e_kO2, e_o1, e_kU, e_oN, e_kN, e_neg, e_not, e_bl, e_kBool, e_blNil, e_blCons, e_onT, e_kBl, e_brBl1, e_brBl0, e_brBlN, e_cmp, e_kCmp, e_cNil, e_cCons, e_kCh1, e_kCh2n, e_kCh20, e_kCh21, e_call, e_kCall, e_new, e_kNew, e_kInit, e_meth, e_kMeth2, s_assign, s_kAsg, s_kE, s_setAttr, s_kSA1, s_expr, s_kExp, s_ret, s_kRet, s_ite, s_brS1, s_brS0, s_rais, s_try, s_kTry, s_brH1, s_kH, s_for, s_bOne, b_nil, b_cons, b_kSeqN, b_kSeqR, f_kFnN, f_kFnR, f_eFn, l_nil, l_cons, l_kFLN, d_set0, d_setS, d_get0, d_getS, d_bt, d_bf, d_nt, d_nf, d_gi, o_add, o_sub, o_mul, o_mod, o_fdiv, o_addS, o_mulS, o_idxT, o_sl, c_lt, c_le, c_ge, c_eqI, x_len, x_max2, x_intB, x_isiV, x_for, e_lstO, e_bm, e_kBm2, s_forX, s_kForX, e_xRange, e_xList, e_kComp, e_kCmpE0, e_mkLi, e_mkLo, x_kXR1, x_kXLi, x_bCmp, d_kCompF, d_bCmpF, d_kCF1, d_kCF0, d_kSome, d_listR, d_kListR2, List.map_cons, List.map_nil, List.cons_append, List.nil_append, List.replicate_succ, List.replicate_zero, Nat.reduceSub, Nat.reduceAdd, Int.reduceAbs, Nat.reduceLT, Nat.reducePow, Nat.reduceLeDiff, Int.reduceLE, Int.reduceLT, Int.le_refl, ne_eq, Int.reduceEq, not_false_eq_true, true_and, and_true, decide_true, decide_false, Int.reduceToNat, Int.toNat_zero, Int.toNat_one, List.getElem?_cons_succ, List.getElem?_cons_zero, if_true, if_false, Bool.false_eq_true]
    refine at_wp 1 rfl ?_
    simp -implicitDefEqProofs only [e_lookV, e_var, e_c, e_nil, e_cons, e_kEs1, e_kEs2, e_tup, e_kTup, e_lst, e_kLst, e_o2, e_kO1, e_kO2, e_o1, e_kU, e_oN, e_kN, e_neg, e_not, e_bl, e_kBool, e_blNil, e_blCons, e_onT, e_kBl, e_brBl1, e_brBl0, e_brBlN, e_cmp, e_kCmp, e_cNil, e_cCons, e_kCh1, e_kCh2n, e_kCh20, e_kCh21, e_call, e_kCall, e_new, e_kNew, e_kInit, e_meth, e_kMeth2, s_assign, s_kAsg, s_kE, s_setAttr, s_kSA1, s_expr, s_kExp, s_ret, s_kRet, s_ite, s_brS1, s_brS0, s_rais, s_try, s_kTry, s_brH1, s_kH, s_for, s_bOne, b_nil, b_cons, b_kSeqN, b_kSeqR, f_kFnN, f_kFnR, f_eFn, l_nil, l_cons, l_kFLN, d_set0, d_setS, d_get0, d_getS, d_bt, d_bf, d_nt, d_nf, d_gi, o_add, o_sub, o_mul, o_mod, o_fdiv, o_addS, o_mulS, o_idxT, o_sl, c_lt, c_le, c_ge, c_eqI, x_len, x_max2, x_intB, x_isiV, x_for, e_lstO, e_bm, e_kBm2, s_forX, s_kForX, e_xRange, e_xList, e_kComp, e_kCmpE0, e_mkLi, e_mkLo, x_kXR1, x_kXLi, x_bCmp, d_kCompF, d_bCmpF, d_kCF1, d_kCF0, d_kSome, d_listR, d_kListR2, List.map_cons, List.map_nil, List.cons_append, List.nil_append, List.replicate_succ, List.replicate_zero, Nat.reduceSub, Nat.reduceAdd, Int.reduceAbs, Nat.reduceLT, Nat.reducePow, Nat.reduceLeDiff, Int.reduceLE, Int.reduceLT, Int.le_refl, ne_eq, Int.reduceEq, not_false_eq_true, true_and, and_true, decide_true, decide_false, Int.reduceToNat, Int.toNat_zero, Int.toNat_one, List.getElem?_cons_succ, List.getElem?_cons_zero, if_true, if_false, Bool.false_eq_true]
    refine idx_all (fmod_nn (by decide)) (by have := fmod_lt (a := (ns.getD 1 0).fdiv 3) (b := 7) (by decide); simp only [List.length_cons, List.length_nil]; omega) fun v hv => ?_
    have hv2 : plainV v = true ∧ amongB v (fstB b0 L0) ((L0.length : Int) - 1) = false := by
      have f := fst_le (b := b0) (L := L0) b00
      simp only [List.mem_cons, List.not_mem_nil, or_false] at hv
      rcases hv with rfl | rfl | rfl | rfl | rfl | rfl | rfl
      · exact ⟨rfl, rfl⟩
      · exact ⟨rfl, rfl⟩
      · exact ⟨rfl, rfl⟩
      · exact ⟨rfl, rfl⟩
      · exact ⟨rfl, rfl⟩
      · exact ⟨rfl, rfl⟩
      · exact ⟨rfl, amongF (by omega)⟩
    simp -implicitDefEqProofs only [e_lookV, e_var, e_c, e_nil, e_cons, e_kEs1, e_kEs2, e_tup, e_kTup, e_lst, e_kLst, e_o2, e_kO1, e_kO2, e_o1, e_kU, e_oN, e_kN, e_neg, e_not, e_bl, e_kBool, e_blNil, e_blCons, e_onT, e_kBl, e_brBl1, e_brBl0, e_brBlN, e_cmp, e_kCmp, e_cNil, e_cCons, e_kCh1, e_kCh2n, e_kCh20, e_kCh21, e_call, e_kCall, e_new, e_kNew, e_kInit, e_meth, e_kMeth2, s_assign, s_kAsg, s_kE, s_setAttr, s_kSA1, s_expr, s_kExp, s_ret, s_kRet, s_ite, s_brS1, s_brS0, s_rais, s_try, s_kTry, s_brH1, s_kH, s_for, s_bOne, b_nil, b_cons, b_kSeqN, b_kSeqR, f_kFnN, f_kFnR, f_eFn, l_nil, l_cons, l_kFLN, d_set0, d_setS, d_get0, d_getS, d_bt, d_bf, d_nt, d_nf, d_gi, o_add, o_sub, o_mul, o_mod, o_fdiv, o_addS, o_mulS, o_idxT, o_sl, c_lt, c_le, c_ge, c_eqI, x_len, x_max2, x_intB, x_isiV, x_for, e_lstO, e_bm, e_kBm2, s_forX, s_kForX, e_xRange, e_xList, e_kComp, e_kCmpE0, e_mkLi, e_mkLo, x_kXR1, x_kXLi, x_bCmp, d_kCompF, d_bCmpF, d_kCF1, d_kCF0, d_kSome, d_listR, d_kListR2, List.map_cons, List.map_nil, List.cons_append, List.nil_append, List.replicate_succ, List.replicate_zero, Nat.reduceSub, Nat.reduceAdd, Int.reduceAbs, Nat.reduceLT, Nat.reducePow, Nat.reduceLeDiff, Int.reduceLE, Int.reduceLT, Int.le_refl, ne_eq, Int.reduceEq, not_false_eq_true, true_and, and_true, decide_true, decide_false, Int.reduceToNat, Int.toNat_zero, Int.toNat_one, List.getElem?_cons_succ, List.getElem?_cons_zero, if_true, if_false, Bool.false_eq_true, i_l]
    refine said_no hv2.1 I1.k0.p I1.k0.t hv2.2 ?_
    simp -implicitDefEqProofs only [e_lookV, e_var, e_c, e_nil, e_cons, e_kEs1, e_kEs2, e_tup, e_kTup, e_lst, e_kLst, e_o2, e_kO1, e_kO2, e_o1, e_kU, e_oN, e_kN, e_neg, e_not, e_bl, e_kBool, e_blNil, e_blCons, e_onT, e_kBl, e_brBl1, e_brBl0, e_brBlN, e_cmp, e_kCmp, e_cNil, e_cCons, e_kCh1, e_kCh2n, e_kCh20, e_kCh21, e_call, e_kCall, e_new, e_kNew, e_kInit, e_meth, e_kMeth2, s_assign, s_kAsg, s_kE, s_setAttr, s_kSA1, s_expr, s_kExp, s_ret, s_kRet, s_ite, s_brS1, s_brS0, s_rais, s_try, s_kTry, s_brH1, s_kH, s_for, s_bOne, b_nil, b_cons, b_kSeqN, b_kSeqR, f_kFnN, f_kFnR, f_eFn, l_nil, l_cons, l_kFLN, d_set0, d_setS, d_get0, d_getS, d_bt, d_bf, d_nt, d_nf, d_gi, o_add, o_sub, o_mul, o_mod, o_fdiv, o_addS, o_mulS, o_idxT, o_sl, c_lt, c_le, c_ge, c_eqI, x_len, x_max2, x_intB, x_isiV, x_for, e_lstO, e_bm, e_kBm2, s_forX, s_kForX, e_xRange, e_xList, e_kComp, e_kCmpE0, e_mkLi, e_mkLo, x_kXR1, x_kXLi, x_bCmp, d_kCompF, d_bCmpF, d_kCF1, d_kCF0, d_kSome, d_listR, d_kListR2, List.map_cons, List.map_nil, List.cons_append, List.nil_append, List.replicate_succ, List.replicate_zero, Nat.reduceSub, Nat.reduceAdd, Int.reduceAbs, Nat.reduceLT, Nat.reducePow, Nat.reduceLeDiff, Int.reduceLE, Int.reduceLT, Int.le_refl, ne_eq, Int.reduceEq, not_false_eq_true, true_and, and_true, decide_true, decide_false, Int.reduceToNat, Int.toNat_zero, Int.toNat_one, List.getElem?_cons_succ, List.getElem?_cons_zero, if_true, if_false, Bool.false_eq_true, ne_ts]
    rw [e_compF]
    refine ⟨rfl, ?_⟩
    rw [mask14n]
    simp -implicitDefEqProofs only [e_lookV, e_var, e_c, e_nil, e_cons, e_kEs1, e_kEs2, e_tup, e_kTup, e_lst, e_kLst, e_o2, e_kO1, e_kO2, e_o1, e_kU, e_oN, e_kN, e_neg, e_not, e_bl, e_kBool, e_blNil, e_blCons, e_onT, e_kBl, e_brBl1, e_brBl0, e_brBlN, e_cmp, e_kCmp, e_cNil, e_cCons, e_kCh1, e_kCh2n, e_kCh20, e_kCh21, e_call, e_kCall, e_new, e_kNew, e_kInit, e_meth, e_kMeth2, s_assign, s_kAsg, s_kE, s_setAttr, s_kSA1, s_expr, s_kExp, s_ret, s_kRet, s_ite, s_brS1, s_brS0, s_rais, s_try, s_kTry, s_brH1, s_kH, s_for, s_bOne, b_nil, b_cons, b_kSeqN, b_kSeqR, f_kFnN, f_kFnR, f_eFn, l_nil, l_cons, l_kFLN, d_set0, d_setS, d_get0, d_getS, d_bt, d_bf, d_nt, d_nf, d_gi, o_add, o_sub, o_mul, o_mod, o_fdiv, o_addS, o_mulS, o_idxT, o_sl, c_lt, c_le, c_ge, c_eqI, x_len, x_max2, x_intB, x_isiV, x_for, e_lstO, e_bm, e_kBm2, s_forX, s_kForX, e_xRange, e_xList, e_kComp, e_kCmpE0, e_mkLi, e_mkLo, x_kXR1, x_kXLi, x_bCmp, d_kCompF, d_bCmpF, d_kCF1, d_kCF0, d_kSome, d_listR, d_kListR2, List.map_cons, List.map_nil, List.cons_append, List.nil_append, List.replicate_succ, List.replicate_zero, Nat.reduceSub, Nat.reduceAdd, Int.reduceAbs, Nat.reduceLT, Nat.reducePow, Nat.reduceLeDiff, Int.reduceLE, Int.reduceLT, Int.le_refl, ne_eq, Int.reduceEq, not_false_eq_true, true_and, and_true, decide_true, decide_false, Int.reduceToNat, Int.toNat_zero, Int.toNat_one, List.getElem?_cons_succ, List.getElem?_cons_zero, if_true, if_false, Bool.false_eq_true, x_kXLo I1.o]
    refine compLF_sel (fun _ => false) I1.o _ _ (fun x hx R r1 r0 => ?_) ?_
    · obtain ⟨a, xs, rfl, s1, s2, s3⟩ := I1.olds x hx
      simp -implicitDefEqProofs only [e_lookV, e_var, e_c, e_nil, e_cons, e_kEs1, e_kEs2, e_tup, e_kTup, e_lst, e_kLst, e_o2, e_kO1, e_kO2, e_o1, e_kU, e_oN, e_kN, e_neg, e_not, e_bl, e_kBool, e_blNil, e_blCons, e_onT, e_kBl, e_brBl1, e_brBl0, e_brBlN, e_cmp, e_kCmp, e_cNil, e_cCons, e_kCh1, e_kCh2n, e_kCh20, e_kCh21, e_call, e_kCall, e_new, e_kNew, e_kInit, e_meth, e_kMeth2, s_assign, s_kAsg, s_kE, s_setAttr, s_kSA1, s_expr, s_kExp, s_ret, s_kRet, s_ite, s_brS1, s_brS0, s_rais, s_try, s_kTry, s_brH1, s_kH, s_for, s_bOne, b_nil, b_cons, b_kSeqN, b_kSeqR, f_kFnN, f_kFnR, f_eFn, l_nil, l_cons, l_kFLN, d_set0, d_setS, d_get0, d_getS, d_bt, d_bf, d_nt, d_nf, d_gi, o_add, o_sub, o_mul, o_mod, o_fdiv, o_addS, o_mulS, o_idxT, o_sl, c_lt, c_le, c_ge, c_eqI, x_len, x_max2, x_intB, x_isiV, x_for, e_lstO, e_bm, e_kBm2, s_forX, s_kForX, e_xRange, e_xList, e_kComp, e_kCmpE0, e_mkLi, e_mkLo, x_kXR1, x_kXLi, x_bCmp, d_kCompF, d_bCmpF, d_kCF1, d_kCF0, d_kSome, d_listR, d_kListR2, List.map_cons, List.map_nil, List.cons_append, List.nil_append, List.replicate_succ, List.replicate_zero, Nat.reduceSub, Nat.reduceAdd, Int.reduceAbs, Nat.reduceLT, Nat.reducePow, Nat.reduceLeDiff, Int.reduceLE, Int.reduceLT, Int.le_refl, ne_eq, Int.reduceEq, not_false_eq_true, true_and, and_true, decide_true, decide_false, Int.reduceToNat, Int.toNat_zero, Int.toNat_one, List.getElem?_cons_succ, List.getElem?_cons_zero, if_true, if_false, Bool.false_eq_true, x_neT (rd_o s1 s3) (rd_i s3) (eqv_self s3)]
      exact r0 rfl
    · rw [List.filter_eq_nil_iff.mpr (fun _ _ h => Bool.noConfusion h), List.nil_append]
      simp -implicitDefEqProofs only [e_lookV, e_var, e_c, e_nil, e_cons, e_kEs1, e_kEs2, e_tup, e_kTup, e_lst, e_kLst, e_o2, e_kO1, e_kO2, e_o1, e_kU, e_oN, e_kN, e_neg, e_not, e_bl, e_kBool, e_blNil, e_blCons, e_onT, e_kBl, e_brBl1, e_brBl0, e_brBlN, e_cmp, e_kCmp, e_cNil, e_cCons, e_kCh1, e_kCh2n, e_kCh20, e_kCh21, e_call, e_kCall, e_new, e_kNew, e_kInit, e_meth, e_kMeth2, s_assign, s_kAsg, s_kE, s_setAttr, s_kSA1, s_expr, s_kExp, s_ret, s_kRet, s_ite, s_brS1, s_brS0, s_rais, s_try, s_kTry, s_brH1, s_kH, s_for, s_bOne, b_nil, b_cons, b_kSeqN, b_kSeqR, f_kFnN, f_kFnR, f_eFn, l_nil, l_cons, l_kFLN, d_set0, d_setS, d_get0, d_getS, d_bt, d_bf, d_nt, d_nf, d_gi, o_add, o_sub, o_mul, o_mod, o_fdiv, o_addS, o_mulS, o_idxT, o_sl, c_lt, c_le, c_ge, c_eqI, x_len, x_max2, x_intB, x_isiV, x_for, e_lstO, e_bm, e_kBm2, s_forX, s_kForX, e_xRange, e_xList, e_kComp, e_kCmpE0, e_mkLi, e_mkLo, x_kXR1, x_kXLi, x_bCmp, d_kCompF, d_bCmpF, d_kCF1, d_kCF0, d_kSome, d_listR, d_kListR2, List.map_cons, List.map_nil, List.cons_append, List.nil_append, List.replicate_succ, List.replicate_zero, Nat.reduceSub, Nat.reduceAdd, Int.reduceAbs, Nat.reduceLT, Nat.reducePow, Nat.reduceLeDiff, Int.reduceLE, Int.reduceLT, Int.le_refl, ne_eq, Int.reduceEq, not_false_eq_true, true_and, and_true, decide_true, decide_false, Int.reduceToNat, Int.toNat_zero, Int.toNat_one, List.getElem?_cons_succ, List.getElem?_cons_zero, if_true, if_false, Bool.false_eq_true]
      intro a ha
      rw [x_eqT (a := .list []) rfl (rd_o (xs := []) (upd_self' _ _ _) (fun _ h => nomatch h)) rfl]
      exact h _
end Ap.L04
end
section
set_option Elab.async false
set_option maxRecDepth 100000
namespace Ap.L04
open PySem PySem.W
noncomputable def fa : List Addr := [130, 144, 151, 158, 165, 172, 186, 193, 200, 207, 214, 221, 226, 231, 238, 243]
noncomputable def ca : List Addr := [24, 37, 49, 61, 73, 85, 97, 109, 121, 175]
theorem bind5 {fd : FuncData} {r : List Value → List (Str × Value)} (h : ∀ a0 a1 a2 a3 a4, bindArgs fd ⟨[a0, a1, a2, a3, a4], []⟩ = pure (r [a0, a1, a2, a3, a4])) (vals : List Value) (hl : vals.length = 5) : bindArgs fd ⟨vals, []⟩ = pure (r vals) := by
  obtain ⟨a0, v0, rfl, h0⟩ := len_cons hl
  obtain ⟨a1, v1, rfl, h1⟩ := len_cons h0
  obtain ⟨a2, v2, rfl, h2⟩ := len_cons h1
  obtain ⟨a3, v3, rfl, h3⟩ := len_cons h2
  obtain ⟨a4, rfl⟩ := List.length_eq_one_iff.mp h3
  exact h a0 a1 a2 a3 a4
theorem f0 (p : Params) : FnK (K p) 130 fn0 ft0 := ⟨by kernel_rfl, by kernel_rfl, by kernel_rfl, by kernel_rfl, by kernel_rfl, by kernel_rfl, by kernel_rfl, by kernel_rfl, by kernel_rfl, bind3 fun a b c => by kernel_rfl⟩
theorem f1 (p : Params) : FnK (K p) 144 fn1 ft1 := ⟨by kernel_rfl, by kernel_rfl, by kernel_rfl, by kernel_rfl, by kernel_rfl, by kernel_rfl, by kernel_rfl, by kernel_rfl, by kernel_rfl, bind2 fun a b => by kernel_rfl⟩
theorem f2 (p : Params) : FnK (K p) 151 fn2 ft2 := ⟨by kernel_rfl, by kernel_rfl, by kernel_rfl, by kernel_rfl, by kernel_rfl, by kernel_rfl, by kernel_rfl, by kernel_rfl, by kernel_rfl, bind1 fun a => by kernel_rfl⟩
theorem f3 (p : Params) : FnK (K p) 158 fn3 ft3 := ⟨by kernel_rfl, by kernel_rfl, by kernel_rfl, by kernel_rfl, by kernel_rfl, by kernel_rfl, by kernel_rfl, by kernel_rfl, by kernel_rfl, bind2 fun a b => by kernel_rfl⟩
theorem f4 (p : Params) : FnK (K p) 165 fn4 ft4 := ⟨by kernel_rfl, by kernel_rfl, by kernel_rfl, by kernel_rfl, by kernel_rfl, by kernel_rfl, by kernel_rfl, by kernel_rfl, by kernel_rfl, bind1 fun a => by kernel_rfl⟩
theorem f5 (p : Params) : FnK (K p) 172 fn5 ft5 := ⟨by kernel_rfl, by kernel_rfl, by kernel_rfl, by kernel_rfl, by kernel_rfl, by kernel_rfl, by kernel_rfl, by kernel_rfl, by kernel_rfl, bind2 fun a b => by kernel_rfl⟩
theorem f6 (p : Params) : FnK (K p) 186 fn6 ft6 := ⟨by kernel_rfl, by kernel_rfl, by kernel_rfl, by kernel_rfl, by kernel_rfl, by kernel_rfl, by kernel_rfl, by kernel_rfl, by kernel_rfl, bind2 fun a b => by kernel_rfl⟩
theorem f7 (p : Params) : FnK (K p) 193 fn7 ft7 := ⟨by kernel_rfl, by kernel_rfl, by kernel_rfl, by kernel_rfl, by kernel_rfl, by kernel_rfl, by kernel_rfl, by kernel_rfl, by kernel_rfl, bind2 fun a b => by kernel_rfl⟩
theorem f8 (p : Params) : FnK (K p) 200 fn8 ft8 := ⟨by kernel_rfl, by kernel_rfl, by kernel_rfl, by kernel_rfl, by kernel_rfl, by kernel_rfl, by kernel_rfl, by kernel_rfl, by kernel_rfl, bind1 fun a => by kernel_rfl⟩
theorem f9 (p : Params) : FnK (K p) 207 fn9 ft9 := ⟨by kernel_rfl, by kernel_rfl, by kernel_rfl, by kernel_rfl, by kernel_rfl, by kernel_rfl, by kernel_rfl, by kernel_rfl, by kernel_rfl, bind1 fun a => by kernel_rfl⟩
theorem f10 (p : Params) : FnK (K p) 214 fn10 ft10 := ⟨by kernel_rfl, by kernel_rfl, by kernel_rfl, by kernel_rfl, by kernel_rfl, by kernel_rfl, by kernel_rfl, by kernel_rfl, by kernel_rfl, bind2 fun a b => by kernel_rfl⟩
theorem f11 (p : Params) : FnK (K p) 221 fn11 ft11 := ⟨by kernel_rfl, by kernel_rfl, by kernel_rfl, by kernel_rfl, by kernel_rfl, by kernel_rfl, by kernel_rfl, by kernel_rfl, by kernel_rfl, bind1 fun a => by kernel_rfl⟩
theorem f12 (p : Params) : FnK (K p) 226 fn12 ft12 := ⟨by kernel_rfl, by kernel_rfl, by kernel_rfl, by kernel_rfl, by kernel_rfl, by kernel_rfl, by kernel_rfl, by kernel_rfl, by kernel_rfl, bind2 fun a b => by kernel_rfl⟩
theorem f13 (p : Params) : FnK (K p) 231 fn13 ft13 := ⟨by kernel_rfl, by kernel_rfl, by kernel_rfl, by kernel_rfl, by kernel_rfl, by kernel_rfl, by kernel_rfl, by kernel_rfl, by kernel_rfl, bind4 fun a b c d => by kernel_rfl⟩
theorem f14 (p : Params) : FnK (K p) 238 fn14 ft14 := ⟨by kernel_rfl, by kernel_rfl, by kernel_rfl, by kernel_rfl, by kernel_rfl, by kernel_rfl, by kernel_rfl, by kernel_rfl, by kernel_rfl, bind5 fun a b c d e => by kernel_rfl⟩
theorem f15 (p : Params) : FnK (K p) 243 fn15 ft15 := ⟨by kernel_rfl, by kernel_rfl, by kernel_rfl, by kernel_rfl, by kernel_rfl, by kernel_rfl, by kernel_rfl, by kernel_rfl, by kernel_rfl, bind1 fun a => by kernel_rfl⟩
theorem x0 (p : Params) : ExcK (K p) 24 := ⟨by kernel_rfl, ⟨by kernel_rfl, by kernel_rfl⟩, by kernel_rfl, .inl (by kernel_rfl), by kernel_rfl, by kernel_rfl, by kernel_rfl⟩
theorem x1 (p : Params) : ExcK (K p) 37 := ⟨by kernel_rfl, ⟨by kernel_rfl, by kernel_rfl⟩, by kernel_rfl, .inr ⟨24, by kernel_rfl, by kernel_rfl, ⟨by kernel_rfl, by kernel_rfl⟩, by kernel_rfl⟩, by kernel_rfl, by kernel_rfl, by kernel_rfl⟩
theorem x2 (p : Params) : ExcK (K p) 49 := ⟨by kernel_rfl, ⟨by kernel_rfl, by kernel_rfl⟩, by kernel_rfl, .inr ⟨24, by kernel_rfl, by kernel_rfl, ⟨by kernel_rfl, by kernel_rfl⟩, by kernel_rfl⟩, by kernel_rfl, by kernel_rfl, by kernel_rfl⟩
theorem x3 (p : Params) : ExcK (K p) 61 := ⟨by kernel_rfl, ⟨by kernel_rfl, by kernel_rfl⟩, by kernel_rfl, .inr ⟨24, by kernel_rfl, by kernel_rfl, ⟨by kernel_rfl, by kernel_rfl⟩, by kernel_rfl⟩, by kernel_rfl, by kernel_rfl, by kernel_rfl⟩
theorem x4 (p : Params) : ExcK (K p) 73 := ⟨by kernel_rfl, ⟨by kernel_rfl, by kernel_rfl⟩, by kernel_rfl, .inr ⟨24, by kernel_rfl, by kernel_rfl, ⟨by kernel_rfl, by kernel_rfl⟩, by kernel_rfl⟩, by kernel_rfl, by kernel_rfl, by kernel_rfl⟩
theorem x5 (p : Params) : ExcK (K p) 85 := ⟨by kernel_rfl, ⟨by kernel_rfl, by kernel_rfl⟩, by kernel_rfl, .inr ⟨24, by kernel_rfl, by kernel_rfl, ⟨by kernel_rfl, by kernel_rfl⟩, by kernel_rfl⟩, by kernel_rfl, by kernel_rfl, by kernel_rfl⟩
theorem x6 (p : Params) : ExcK (K p) 97 := ⟨by kernel_rfl, ⟨by kernel_rfl, by kernel_rfl⟩, by kernel_rfl, .inr ⟨24, by kernel_rfl, by kernel_rfl, ⟨by kernel_rfl, by kernel_rfl⟩, by kernel_rfl⟩, by kernel_rfl, by kernel_rfl, by kernel_rfl⟩
theorem x7 (p : Params) : ExcK (K p) 109 := ⟨by kernel_rfl, ⟨by kernel_rfl, by kernel_rfl⟩, by kernel_rfl, .inr ⟨24, by kernel_rfl, by kernel_rfl, ⟨by kernel_rfl, by kernel_rfl⟩, by kernel_rfl⟩, by kernel_rfl, by kernel_rfl, by kernel_rfl⟩
theorem x8 (p : Params) : ExcK (K p) 121 := ⟨by kernel_rfl, ⟨by kernel_rfl, by kernel_rfl⟩, by kernel_rfl, .inr ⟨24, by kernel_rfl, by kernel_rfl, ⟨by kernel_rfl, by kernel_rfl⟩, by kernel_rfl⟩, by kernel_rfl, by kernel_rfl, by kernel_rfl⟩
theorem c9 (p : Params) : ClsK (K p) tabs fa 175 ⟨some 1, [(5, 2), (4, 3), (2, 4), (3, 5)], []⟩ := ⟨by kernel_rfl, ⟨by kernel_rfl, by kernel_rfl⟩, by kernel_rfl, by kernel_rfl, by kernel_rfl, fun f h => by cases h; kernel_rfl, by kernel_rfl, by kernel_rfl⟩
theorem kd (p : Params) : KDat (K p) tabs prg fa ca where
  g := ⟨by kernel_rfl, by kernel_rfl⟩
  fnN := by kernel_rfl
  clsN := by kernel_rfl
  bltN := by kernel_rfl
  inj := by decide +kernel
  ne := by decide +kernel
  objN := by kernel_rfl
  lens := ⟨rfl, rfl, rfl, rfl⟩
  ics := AllI.at0 (P := fun c (ci : ClsI) => ci.init ≠ Option.none → ClsK (K p) tabs fa (ca.getD c 0) ci) (l := clss) ⟨(fun h => absurd rfl h), (fun h => absurd rfl h), (fun h => absurd rfl h), (fun h => absurd rfl h), (fun h => absurd rfl h), (fun h => absurd rfl h), (fun h => absurd rfl h), (fun h => absurd rfl h), (fun h => absurd rfl h), fun _ => c9 p, trivial⟩
  xcs := AllI.at0 (P := fun c (ci : ClsI) => ci.init = Option.none → ExcK (K p) (ca.getD c 0)) (l := clss) ⟨fun _ => x0 p, fun _ => x1 p, fun _ => x2 p, fun _ => x3 p, fun _ => x4 p, fun _ => x5 p, fun _ => x6 p, fun _ => x7 p, fun _ => x8 p, (fun h => by cases h), trivial⟩
  xps := by kernel_rfl
  fns := fun f fi ft h1 h2 => AllI.at0 (P := fun f fi => ∀ ft, tabs.fts[f]? = some ft → FnK (K p) (fa.getD f 0) fi ft) (l := prg.fns) ⟨fun ft h => by cases h; exact f0 p, fun ft h => by cases h; exact f1 p, fun ft h => by cases h; exact f2 p, fun ft h => by cases h; exact f3 p, fun ft h => by cases h; exact f4 p, fun ft h => by cases h; exact f5 p, fun ft h => by cases h; exact f6 p, fun ft h => by cases h; exact f7 p, fun ft h => by cases h; exact f8 p, fun ft h => by cases h; exact f9 p, fun ft h => by cases h; exact f10 p, fun ft h => by cases h; exact f11 p, fun ft h => by cases h; exact f12 p, fun ft h => by cases h; exact f13 p, fun ft h => by cases h; exact f14 p, fun ft h => by cases h; exact f15 p, trivial⟩ f fi h1 ft h2
  sh := by kernel_rfl
theorem bs (C : Cx) (X : CxOk C tabs prg) (Y : GlobOk C globs ∧ GDs C gds) (F : Calls) (d : Nat) (hF : SndF C prg d F) (f : Nat) (fi : FnI) (ft : FnT) (h1 : prg.fns[f]? = some fi) (h2 : tabs.fts[f]? = some ft) : BothB C d ft.sc ft.nms fi.quiet (fi.body F) ft.body :=
  AllI.at0 (P := fun f fi => ∀ ft, tabs.fts[f]? = some ft → BothB C d ft.sc ft.nms fi.quiet (fi.body F) ft.body) (l := prg.fns) ⟨fun ft h => by cases h; exact b0 X Y.1 Y.2 hF, fun ft h => by cases h; exact b1 X Y.1 Y.2 hF, fun ft h => by cases h; exact b2 X Y.1 Y.2 hF, fun ft h => by cases h; exact b3 X Y.1 Y.2 hF, fun ft h => by cases h; exact b4 X Y.1 Y.2 hF, fun ft h => by cases h; exact b5 X Y.1 Y.2 hF, fun ft h => by cases h; exact b6 X Y.1 Y.2 hF, fun ft h => by cases h; exact b7 X Y.1 Y.2 hF, fun ft h => by cases h; exact b8 X Y.1 Y.2 hF, fun ft h => by cases h; exact b9 X Y.1 Y.2 hF, fun ft h => by cases h; exact b10 X Y.1 Y.2 hF, fun ft h => by cases h; exact b11 X Y.1 Y.2 hF, fun ft h => by cases h; exact b12 X Y.1 Y.2 hF, fun ft h => by cases h; exact b13 X Y.1 Y.2 hF, fun ft h => by cases h; exact b14 X Y.1 Y.2 hF, fun ft h => by cases h; exact b15 X Y.1 Y.2 hF, trivial⟩ f fi h1 ft h2
end Ap.L04
end
section
open PySem PySem.W PyProof.Rows
set_option Elab.async false
set_option maxRecDepth 100000
set_option maxHeartbeats 4000000
namespace Ap.L04
theorem holds_of (hw : ∀ ns : List Int, ns.length ≤ 63 → wpF prg 12 15 [.ilist (ns.map .int)] (fun _ => Option.none) (fun v _ => v = .bool true) fun _ _ => False) : PySem.Challenge.rw_uf020020_04.Holds := hd (by
  intro w s₀ s₁ mg mb G Y fa' o pm cd doc dV kV ho hd hcd hD hmg hg args vals as hpre hlay hrd hwl hlo
  have KX := kIn_of Y
  refine Ground.open G ?_
  intro T B D TE TW
  clear B D TE TW
  wrow_args hpre hlay hrd hwl hlo
  refine enter_call ?_
  w_top on
  rename_i ns _ _ _ _ _ _ _ l _ _ _ _ hW _ _ _ hc _
  have gv : ∀ x, mg x = nsFind (esK (K w.params) mainGlobals) x := fun x => ns_uniq T.g ((kd w.params).g.ns KX) x
  have hfa : fa' = fa.getD 15 0 := by
    have h1 := gv (Str.ofString "law")
    have h2 : nsFind (esK (K w.params) mainGlobals) (Str.ofString "law") = some (.ref 243) := by kernel_rfl
    rw [← dkN, hmg, dkN, h2] at h1
    cases h1; rfl
  subst hfa
  try rw [ofPy_ints] at hW
  have hY : GlobOk (cxOf PySem.Challenge.pw_uf020020_04 w s₁.heap mg mb tabs prg fa ca) globs ∧ GDs (cxOf PySem.Challenge.pw_uf020020_04 w s₁.heap mg mb tabs prg fa ca) gds := ⟨GlobOk.nil, GDs.nil⟩
  refine codeAny_mono (law_endG KX T.g T.b T.nolimit T.builtins (kd w.params) (R := fun C => GlobOk C globs ∧ GDs C gds) hY bs hg (ns := ns) hW (by omega) (d := 12) (by decide) (hw ns (by omega))) ?_
  rintro r s' ⟨rfl, h1, h2, h3⟩
  refine GoodW.toG ⟨.inl ⟨.bool true, .bool true, [], rfl, fun _ => rfl, .bool true, ?_, fun _ => ⟨.nil, fun a ha => nomatch ha⟩⟩, h1, h2, h3⟩
  first | kernel_rfl | with_unfolding_all rfl)
theorem holds : PySem.Challenge.rw_uf020020_04.Holds := holds_of fun ns hn => law_wp ns hn fun _ => rfl
end Ap.L04
end
set_option maxHeartbeats 4000000 in
theorem PySem.Challenge.cw_uf020020_04_holds : PySem.Challenge.rw_uf020020_04.Holds :=
  Ap.L04.holds
