import PyProof.Rows.All
import Wide.All
import OpenK.AllK
import Wide.FinOn
import KE.KTryMore
import PyProof.ExcArgsOwn
import PyProof.ExcBaseAll.ValueError
import PyProof.ExcAttrAll.ValueError
import Wide.Well
import Wide.BridgeG
import KE.LcSums
import KE.KDictSum
import Wide.Txt2
import KE.KIntText
import OpenK.KTop
import PyProof.AutoSeq1
import PyProof.EqKinds
import PyProof.EqAt
import PyProof.MaxThree
import KE.KDictOf
import KE.KItem
import PyProof.Rows.TupMore
import PyProof.ZipIter
import KE.KTurns
import Lean
import PySem.Challenge.RW_uf020020_08
set_option Elab.async false
set_option maxRecDepth 100000
set_option maxHeartbeats 4000000
set_option linter.all false
section
set_option genSizeOf false
set_option genSizeOfSpec false
namespace Ap
open PySem
inductive AV where
  | none
  | bool (b : Bool)
  | int (i : Int)
  | str (s : Str)
  | tup (xs : List AV)
  | ilist (xs : List AV)
  | obj (a : Nat)
  | exn (c : Nat)
inductive AObj where
  | list (xs : List AV)
  | dictI (es : List (Int × AV))
  | dictS (es : List (Str × AV))
  | inst (c : Nat) (fs : List (Nat × AV))
noncomputable abbrev St := Nat → Option AObj
noncomputable abbrev Loc := List (Option AV)
noncomputable def upd (σ : St) (a : Nat) (o : AObj) : St := fun b => if b = a then some o else σ b
inductive Fl | next | ret (v : AV)
noncomputable abbrev PQ := AV → St → Prop
noncomputable abbrev PE := Nat → St → Prop
noncomputable abbrev QS := Fl → Loc → St → Prop
noncomputable abbrev ES := Nat → Loc → St → Prop
noncomputable abbrev Calls := Nat → List AV → St → PQ → PE → Prop
noncomputable abbrev WE := Loc → St → PQ → PE → Prop
noncomputable abbrev WL := Loc → St → (List AV → St → Prop) → PE → Prop
noncomputable abbrev WBl := Loc → St → (Bool → St → Prop) → PE → Prop
noncomputable abbrev WS := Loc → St → QS → ES → Prop
noncomputable abbrev WH := Nat → WS
structure FnI where
  quiet : Bool
  arity : Nat
  nloc : Nat
  body : Calls → WS
structure ClsI where
  init : Option Nat
  meths : List (Nat × Nat)
  sups : List Nat
structure Prg where
  fns : List FnI
  cls : List ClsI
  globs : List AV
noncomputable def cb {κ : Type} [DecidableEq κ] (k : κ) (v : AV) (es : List (κ × AV)) : List (κ × AV) :=
  if es.any (fun e => e.1 = k) then es.map (fun e => if e.1 = k then (e.1, v) else e) else es ++ [(k, v)]
noncomputable def fQ {κ : Type} [DecidableEq κ] (k : κ) (es : List (κ × AV)) : List (κ × AV) := es.filter fun e => decide (e.1 ≠ k)
noncomputable def aQ {κ : Type} [DecidableEq κ] (es : List (κ × AV)) (k : κ) : Option AV := (es.find? fun e => e.1 = k).map (·.2)
noncomputable def il {κ : Type} [DecidableEq κ] (es : List (κ × AV)) (k : κ) : Bool := (aQ es k).isSome
noncomputable def setL (ρ : Loc) (x : Nat) (v : AV) : Loc := ρ.set x (some v)
noncomputable def gz (ρ : Loc) (x : Nat) : Option AV := ρ.getD x Option.none
noncomputable def kn (Q : PQ) (σ : St) : Option AV → Prop
  | some v => Q v σ
  | Option.none => False
noncomputable def aa (i : Nat) : WE := fun ρ σ Q _ => kn Q σ (gz ρ i)
noncomputable def vC (v : AV) : WE := fun _ σ Q _ => Q v σ
noncomputable def AG (v : AV) (Q : List AV → St → Prop) : List AV → St → Prop := fun vs σ => Q (v :: vs) σ
noncomputable def Av (es : WL) (ρ : Loc) (Q : List AV → St → Prop) (E : PE) : PQ := fun v σ => es ρ σ (AG v Q) E
noncomputable def ao : WL := fun _ σ Q _ => Q [] σ
noncomputable def ac (e : WE) (es : WL) : WL := fun ρ σ Q E => e ρ σ (Av es ρ Q E) E
noncomputable def zP (Q : PQ) : List AV → St → Prop := fun vs σ => Q (.tup vs) σ
noncomputable def dj (es : WL) : WE := fun ρ σ Q E => es ρ σ (zP Q) E
noncomputable def mkL (own : Bool) (xs : List AV) (σ : St) (Q : PQ) : Prop :=
  match own with
  | true => ∀ a, σ a = Option.none → Q (.obj a) (upd σ a (.list xs))
  | false => Q (.ilist xs) σ
noncomputable def wV (own : Bool) (Q : PQ) : List AV → St → Prop := fun vs σ => mkL own vs σ Q
noncomputable def ee (own : Bool) (es : WL) : WE := fun ρ σ Q E => es ρ σ (wV own Q) E
noncomputable abbrev O2 := AV → AV → St → PQ → Prop
noncomputable def kO2 (f : O2) (va : AV) (Q : PQ) : PQ := fun vb σ => f va vb σ Q
noncomputable def kO1 (f : O2) (b : WE) (ρ : Loc) (Q : PQ) (E : PE) : PQ := fun va σ => b ρ σ (kO2 f va Q) E
noncomputable def vO2 (f : O2) (a b : WE) : WE := fun ρ σ Q E => a ρ σ (kO1 f b ρ Q E) E
noncomputable abbrev O1 := AV → St → PQ → Prop
noncomputable def kU (f : O1) (Q : PQ) : PQ := fun v σ => f v σ Q
noncomputable def vO1 (f : O1) (a : WE) : WE := fun ρ σ Q E => a ρ σ (kU f Q) E
noncomputable abbrev ON := List AV → St → PQ → Prop
noncomputable def kN (f : ON) (Q : PQ) : List AV → St → Prop := fun vs σ => f vs σ Q
noncomputable def vON (f : ON) (es : WL) : WE := fun ρ σ Q E => es ρ σ (kN f Q) E
noncomputable def onB (f : Bool → St → PQ → Prop) : O1 := fun v σ Q => match v with | .bool x => f x σ Q | _ => False
noncomputable def dY : O1 := onB fun x σ Q => Q (.bool (!x)) σ
noncomputable def qL (Q : PQ) : Bool → St → Prop := fun b σ => Q (.bool b) σ
noncomputable def onT (R : Bool → St → Prop) : PQ := fun v σ => match v with | .bool b => R b σ | _ => False
noncomputable def cU (and : Bool) : WBl := fun _ σ Q _ => Q and σ
noncomputable def uC (r : WBl) (ρ : Loc) (Q : Bool → St → Prop) (E : PE) (b t : Bool) (σ : St) : Prop := match t with
  | true => r ρ σ Q E
  | false => Q b σ
noncomputable def kBl (and : Bool) (r : WBl) (ρ : Loc) (Q : Bool → St → Prop) (E : PE) : Bool → St → Prop := fun b σ => uC r ρ Q E b (b == and) σ
noncomputable def aX (and : Bool) (e : WE) (r : WBl) : WBl := fun ρ σ Q E => e ρ σ (onT (kBl and r ρ Q E)) E
noncomputable def vBl (r : WBl) : WE := fun ρ σ Q E => r ρ σ (qL Q) E
noncomputable abbrev OC := AV → AV → St → (Bool → Prop) → Prop
noncomputable def bH : AV → WBl := fun _ _ σ Q _ => Q true σ
noncomputable def uF (vb : AV) (r : AV → WBl) (ρ : Loc) (Q : Bool → St → Prop) (E : PE) (σ : St) : Bool → Prop := fun t => match t with
  | false => Q false σ
  | true => r vb ρ σ Q E
noncomputable def Aq (va : AV) (f : OC) (r : AV → WBl) (ρ : Loc) (Q : Bool → St → Prop) (E : PE) : PQ := fun vb σ => f va vb σ (uF vb r ρ Q E σ)
noncomputable def aM (f : OC) (e : WE) (r : AV → WBl) : AV → WBl := fun va ρ σ Q E => e ρ σ (Aq va f r ρ Q E) E
noncomputable def zN (c : AV → WBl) (ρ : Loc) (Q : PQ) (E : PE) : PQ := fun va σ => c va ρ σ (qL Q) E
noncomputable def bK (a : WE) (c : AV → WBl) : WE := fun ρ σ Q E => a ρ σ (zN c ρ Q E) E
noncomputable def brE (a b : WE) (ρ : Loc) (Q : PQ) (E : PE) : Bool → St → Prop := fun t σ => match t with
  | true => a ρ σ Q E
  | false => b ρ σ Q E
noncomputable def CT (c a b : WE) : WE := fun ρ σ Q E => c ρ σ (onT (brE a b ρ Q E)) E
noncomputable def uZ (F : Calls) (f : Nat) (Q : PQ) (E : PE) : List AV → St → Prop := fun vs σ => F f vs σ Q E
noncomputable def aT (F : Calls) (f : Nat) (es : WL) : WE := fun ρ σ Q E => es ρ σ (uZ F f Q E) E
noncomputable def tW (a : Nat) (Q : PQ) : PQ := fun r σ => match r with | .none => Q (.obj a) σ | _ => False
noncomputable def zW (F : Calls) (c f : Nat) (Q : PQ) (E : PE) : List AV → St → Prop := fun vs σ => ∀ a, σ a = Option.none → F f (.obj a :: vs) (upd σ a (.inst c [])) (tW a Q) E
noncomputable def nQ (F : Calls) (c f : Nat) (es : WL) : WE := fun ρ σ Q E => es ρ σ (zW F c f Q E) E
noncomputable def rm (F : Calls) (f a : Nat) (Q : PQ) (E : PE) : List AV → St → Prop := fun vs σ => F f (.obj a :: vs) σ Q E
noncomputable def wa (F : Calls) (c m f : Nat) (es : WL) (ρ : Loc) (Q : PQ) (E : PE) : PQ := fun v σ => ∃ a fs, v = .obj a ∧ σ a = some (.inst c fs) ∧ aQ fs m = Option.none ∧ es ρ σ (rm F f a Q E) E
noncomputable def bd (F : Calls) (c m f : Nat) (e : WE) (es : WL) : WE := fun ρ σ Q E => e ρ σ (wa F c m f es ρ Q E) E
noncomputable def ay (c f : Nat) : O1 := fun v σ Q => ∃ a fs u, v = .obj a ∧ σ a = some (.inst c fs) ∧ aQ fs f = some u ∧ Q u σ
noncomputable def cR : AV → Bool
  | .obj _ => false
  | .exn _ => false
  | _ => true
inductive Ty | int | bool | str | list | tuple
noncomputable def mc : Ty → AV → Bool
  | .int, .int _ => true
  | .int, .bool _ => true
  | .bool, .bool _ => true
  | .str, .str _ => true
  | .list, .ilist _ => true
  | .tuple, .tup _ => true
  | _, _ => false
noncomputable def nY (t : Ty) : O1 := fun v σ Q => cR v = true ∧ Q (.bool (mc t v)) σ
noncomputable def kE (E : ES) (ρ : Loc) : PE := fun c σ => E c ρ σ
noncomputable def Ax (x : Nat) (ρ : Loc) (Q : QS) : PQ := fun v σ => Q .next (setL ρ x v) σ
noncomputable def au (x : Nat) (e : WE) : WS := fun ρ σ Q E => e ρ σ (Ax x ρ Q) (kE E ρ)
noncomputable def Ac (c f : Nat) (v : AV) (ρ : Loc) (Q : QS) : PQ := fun u σ => ∃ a fs, u = .obj a ∧ σ a = some (.inst c fs) ∧ fs.length < 100 ∧ Q .next ρ (upd σ a (.inst c (cb f v fs)))
noncomputable def zS (o : WE) (c f : Nat) (ρ : Loc) (Q : QS) (E : ES) : PQ := fun v σ => o ρ σ (Ac c f v ρ Q) (kE E ρ)
noncomputable def aL (o : WE) (c f : Nat) (e : WE) : WS := fun ρ σ Q E => e ρ σ (zS o c f ρ Q E) (kE E ρ)
noncomputable def zE (ρ : Loc) (Q : QS) : PQ := fun _ σ => Q .next ρ σ
noncomputable def dz (e : WE) : WS := fun ρ σ Q E => e ρ σ (zE ρ Q) (kE E ρ)
noncomputable def AN (ρ : Loc) (Q : QS) : PQ := fun v σ => Q (.ret v) ρ σ
noncomputable def bI (e : WE) : WS := fun ρ σ Q E => e ρ σ (AN ρ Q) (kE E ρ)
noncomputable def brS (a b : WS) (ρ : Loc) (Q : QS) (E : ES) : Bool → St → Prop := fun t σ => match t with
  | true => a ρ σ Q E
  | false => b ρ σ Q E
noncomputable def bP (c : WE) (a b : WS) : WS := fun ρ σ Q E => c ρ σ (onT (brS a b ρ Q E)) (kE E ρ)
noncomputable def vZ (r : WS) (Q : QS) (E : ES) : QS := fun fl ρ σ => match fl with
  | .next => r ρ σ Q E
  | .ret v => Q (.ret v) ρ σ
noncomputable def ap : WS := fun ρ σ Q _ => Q .next ρ σ
noncomputable def ad (s r : WS) : WS := fun ρ σ Q E => s ρ σ (vZ r Q E) E
noncomputable def jh (c : Nat) : WS := fun ρ σ _ E => E c ρ σ
noncomputable def kH (Q : QS) : QS := fun fl _ σ => match fl with
  | .ret v => Q (.ret v) [] σ
  | .next => False
noncomputable def AE : ES := fun _ _ _ => False
noncomputable def At : WH := fun c ρ σ _ E => E c ρ σ
noncomputable def brH (c : Nat) (x : Nat) (b : WS) (r : WH) (ρ : Loc) (σ : St) (Q : QS) (E : ES) : Bool → Prop := fun t => match t with
  | true => b (setL ρ x (.exn c)) σ (kH Q) AE
  | false => r c ρ σ Q E
noncomputable def AZ (cs : List ClsI) (d x : Nat) (b : WS) (r : WH) : WH := fun c ρ σ Q E => ∃ ci, cs[c]? = some ci ∧ brH c x b r ρ σ Q E (ci.sups.contains d)
noncomputable def Ad (h : WH) (Q : QS) (E : ES) : ES := fun c ρ σ => h c ρ σ Q E
noncomputable def AA (b : WS) (h : WH) : WS := fun ρ σ Q E => b ρ σ Q (Ad h Q E)
/- loops over the items xs; G must hold all along -/
noncomputable def kFL (go : Loc → St → QS → Prop) (Q : QS) : QS := fun fl ρ σ => match fl with
  | .next => go ρ σ Q
  | .ret v => Q (.ret v) ρ σ
noncomputable def forL (G : St → Prop) (B : AV → Loc → St → QS → Prop) : List AV → Loc → St → QS → Prop
  | [], ρ, σ, Q => G σ ∧ Q .next ρ σ
  | x :: xs, ρ, σ, Q => G σ ∧ B x ρ σ (kFL (forL G B xs) Q)
noncomputable def dS (σ : St) : AV → Option (List AV)
  | .ilist xs => some xs
  | .obj a => match σ a with
    | some (.list xs) => some xs
    | _ => Option.none
  | _ => Option.none
noncomputable def gj : AV → List AV → St → Prop
  | .obj a, xs, σ => σ a = some (.list xs)
  | _, _, _ => True
noncomputable def pd (x : Nat) (body : WS) (E : ES) : AV → Loc → St → QS → Prop := fun v ρ σ R => body (setL ρ x v) σ R E
noncomputable def yp (x : Nat) (body : WS) (ρ : Loc) (Q : QS) (E : ES) : PQ := fun v σ => ∃ xs, dS σ v = some xs ∧ forL (gj v xs) (pd x body E) xs ρ σ Q
noncomputable def vQ (x : Nat) (e : WE) (body : WS) : WS := fun ρ σ Q E => e ρ σ (yp x body ρ Q E) (kE E ρ)
noncomputable def kFn (Q : PQ) : QS := fun fl _ σ => match fl with
  | .ret v => Q v σ
  | .next => Q .none σ
noncomputable def eFn (E : PE) : ES := fun c _ σ => E c σ
noncomputable def wpF (P : Prg) : Nat → Calls
  | 0 => fun _ _ _ _ _ => False
  | d + 1 => fun f vs σ Q E => ∃ fd, P.fns[f]? = some fd ∧ vs.length = fd.arity ∧ fd.body (wpF P d) (vs.map some ++ List.replicate (fd.nloc - fd.arity) Option.none) σ (kFn Q) (eFn E)
end Ap
end
section
set_option genSizeOf false
set_option genSizeOfSpec false
namespace Ap
open PySem PySem.Calls PyProof.Rows
structure Cx where
  prog : Program
  w : World
  base : Heap
  clsA : Nat → Addr
  fnA : Nat → Addr
  nm : Nat → Str
  mg : Str → Option Value
  mb : Str → Option Value
  ics : List Nat
  xcs : List Nat
noncomputable abbrev kA (vs : List Value) (n : Nat) : Obj := { cls := .type "list", data := .seq vs.toArray n }
noncomputable abbrev yA (vs : List Value) (n : Nat) : Obj := { cls := .type "tuple", data := .seq vs.toArray n }
noncomputable def IsL (h : Heap) (a : Addr) (vs : List Value) : Prop := vs.length ≤ 16777216 ∧ ∃ n, h.get? a = some (kA vs n)
noncomputable def IsT (h : Heap) (a : Addr) (vs : List Value) : Prop := vs.length ≤ 16777216 ∧ ∃ n, h.get? a = some (yA vs n)
theorem IsL.isList {h : Heap} {a : Addr} {vs : List Value} (x : IsL h a vs) : h.IsList a vs.toArray := by
  obtain ⟨_, n, e⟩ := x
  exact ⟨_, e, rfl, n, rfl⟩
theorem IsT.isTuple {h : Heap} {a : Addr} {vs : List Value} (x : IsT h a vs) : h.IsTuple a vs.toArray := by
  obtain ⟨_, n, e⟩ := x
  exact ⟨_, e, rfl, n, rfl⟩
mutual
inductive VR (C : Cx) (Z : Nat → Prop) (h : Heap) : AV → Value → Prop
  | none : VR C Z h .none .none
  | bool (b : Bool) : VR C Z h (.bool b) (.bool b)
  | int (i : Int) (t : Tok) : VR C Z h (.int i) (.int i t)
  | str (s : Str) (t : Tok) (ok : PyData.strOk s = true) : VR C Z h (.str s) (.str s t)
  | tup {a : Addr} {vs : List Value} {xs : List AV} (at_ : IsT h a vs) (off : ¬ Z a) (r : VRs C Z h xs vs) : VR C Z h (.tup xs) (.ref a)
  | ilist {a : Addr} {vs : List Value} {xs : List AV} (at_ : IsL h a vs) (off : ¬ Z a) (r : VRs C Z h xs vs) : VR C Z h (.ilist xs) (.ref a)
  | obj (a : Nat) : VR C Z h (.obj a) (.ref a)
  | exn {e : Addr} {o : Obj} {c : Nat} {vs : Array Value} (at_ : h.get? e = some o) (cls : o.cls = .ref (C.clsA c)) (dt : o.data = .fields vs) (dn : o.dict = Option.none) (cx : c ∈ C.xcs) (off : ¬ Z e) : VR C Z h (.exn c) (.ref e)
inductive VRs (C : Cx) (Z : Nat → Prop) (h : Heap) : List AV → List Value → Prop
  | nil : VRs C Z h [] []
  | cons {x : AV} {v : Value} {xs : List AV} {vs : List Value} (hd : VR C Z h x v) (tl : VRs C Z h xs vs) : VRs C Z h (x :: xs) (v :: vs)
end
noncomputable def Kp (Z : Nat → Prop) (h h' : Heap) : Prop := ∀ b o, h.get? b = some o → ¬ Z b → h'.get? b = some o
theorem IsT.kp {h h' : Heap} {Z : Nat → Prop} {a : Addr} {vs : List Value} (k : Kp Z h h') (n : ¬ Z a) (x : IsT h a vs) : IsT h' a vs := by
  obtain ⟨z, m, e⟩ := x
  exact ⟨z, m, k a _ e n⟩
theorem IsL.kp {h h' : Heap} {Z : Nat → Prop} {a : Addr} {vs : List Value} (k : Kp Z h h') (n : ¬ Z a) (x : IsL h a vs) : IsL h' a vs := by
  obtain ⟨z, m, e⟩ := x
  exact ⟨z, m, k a _ e n⟩
noncomputable def Zg (Z Z' : Nat → Prop) (h : Heap) : Prop := ∀ b, Z' b → Z b ∨ h.get? b = none
theorem Zg.not {Z Z' : Nat → Prop} {h : Heap} (g : Zg Z Z' h) {a : Addr} {o : Obj} (e : h.get? a = some o) (n : ¬ Z a) : ¬ Z' a := fun q => by
  rcases g a q with q | q
  · exact n q
  · rw [e] at q; cases q
theorem Zg.refl (Z : Nat → Prop) (h : Heap) : Zg Z Z h := fun _ q => .inl q
mutual
theorem VR.kp {C : Cx} {Z Z' : Nat → Prop} {h h' : Heap} (k : Kp Z h h') (g : Zg Z Z' h) {x : AV} {v : Value} (r : VR C Z h x v) : VR C Z' h' x v := by
  cases r with
  | none => exact .none
  | bool b => exact .bool b
  | int i t => exact .int i t
  | str s t ok => exact .str s t ok
  | tup at_ off r =>
    refine .tup (at_.kp k off) ?_ (VRs.kp k g r)
    obtain ⟨_, _, e⟩ := at_
    exact g.not e off
  | ilist at_ off r =>
    refine .ilist (at_.kp k off) ?_ (VRs.kp k g r)
    obtain ⟨_, _, e⟩ := at_
    exact g.not e off
  | obj a => exact .obj a
  | exn at_ cls dt dn cx off => exact .exn (k _ _ at_ off) cls dt dn cx (g.not at_ off)
theorem VRs.kp {C : Cx} {Z Z' : Nat → Prop} {h h' : Heap} (k : Kp Z h h') (g : Zg Z Z' h) {xs : List AV} {vs : List Value} (r : VRs C Z h xs vs) : VRs C Z' h' xs vs := by
  cases r with
  | nil => exact .nil
  | cons hd tl => exact .cons (VR.kp k g hd) (VRs.kp k g tl)
end
theorem VRs.length {C : Cx} {Z : Nat → Prop} {h : Heap} : ∀ {xs : List AV} {vs : List Value}, VRs C Z h xs vs → xs.length = vs.length := by
  intro xs
  induction xs with
  | nil => intro vs r; cases r; rfl
  | cons x xs ih => intro vs r; cases r with | cons hd tl => exact congrArg Nat.succ (ih tl)
theorem VRs.append {C : Cx} {Z : Nat → Prop} {h : Heap} {ys : List AV} {us : List Value} (r : VRs C Z h ys us) : ∀ {xs : List AV} {vs : List Value}, VRs C Z h xs vs → VRs C Z h (xs ++ ys) (vs ++ us) := by
  intro xs
  induction xs with
  | nil => intro vs q; cases q; exact r
  | cons x xs ih => intro vs q; cases q with | cons hd tl => exact .cons hd (ih tl)
theorem VRs.get {C : Cx} {Z : Nat → Prop} {h : Heap} : ∀ {xs : List AV} {vs : List Value}, VRs C Z h xs vs → ∀ (i : Nat) (x : AV), xs[i]? = some x → ∃ v, vs[i]? = some v ∧ VR C Z h x v := by
  intro xs
  induction xs with
  | nil => intro vs r i x e; cases e
  | cons y xs ih =>
    intro vs r i x e
    cases r with | cons hd tl =>
    cases i with
    | zero => cases e; exact ⟨_, rfl, hd⟩
    | succ i => exact ih tl i x e
noncomputable def FMap (C : Cx) (Z : Nat → Prop) (h : Heap) (fs : List (Nat × AV)) (mA : Str → Option Value) : Prop :=
  (∀ f v, aQ fs f = some v → ∃ u, mA (C.nm f) = some u ∧ VR C Z h v u) ∧ ∀ x, mA x ≠ Option.none → x ∈ fs.map fun p => C.nm p.1
theorem FMap.kp {C : Cx} {Z Z' : Nat → Prop} {h h' : Heap} (k : Kp Z h h') (g : Zg Z Z' h) {fs : List (Nat × AV)} {mA : Str → Option Value} (x : FMap C Z h fs mA) : FMap C Z' h' fs mA := by
  refine ⟨fun f v e => ?_, x.2⟩
  obtain ⟨u, e', r⟩ := x.1 f v e
  exact ⟨u, e', r.kp k g⟩
noncomputable def ORep (C : Cx) (Z : Nat → Prop) (ow : Nat → Option Nat) (h : Heap) (a : Addr) : AObj → Prop
  | .list xs => ∃ vs, IsL h a vs ∧ VRs C Z h xs vs
  | .dictI es => ∃ kvs, h.DictOf (intKind C.prog C.w) a kvs ∧ (a == sysModules) = false ∧ kvs.map (·.1) = es.map (·.1) ∧ VRs C Z h (es.map (·.2)) (kvs.map (·.2))
  | .dictS es => ∃ kvs, h.DictOf (strKind C.prog C.w) a kvs ∧ (a == sysModules) = false ∧ kvs.map (·.1) = es.map (·.1) ∧ VRs C Z h (es.map (·.2)) (kvs.map (·.2))
  | .inst c fs => ∃ o dx mA, h.get? a = some o ∧ o.cls = .ref (C.clsA c) ∧ (∀ k, o.data ≠ .cls k) ∧ o.dict = some dx ∧ dx ≠ a ∧ ow dx = some a ∧ h.Ns1 dx mA ∧ (c ∈ C.ics ∧ fs.length ≤ 1000) ∧ FMap C Z h fs mA
noncomputable def Own (σ : St) (ow : Nat → Option Nat) (b : Nat) : Prop := (σ b).isSome = true ∨ (ow b).isSome = true
noncomputable def Zs (σ : St) (ow : Nat → Option Nat) (fs : List Addr) (b : Nat) : Prop := Own σ ow b ∨ b ∈ fs
structure Vo where
  l : List Env
  fs : List Addr
  its : List Addr
noncomputable abbrev frs (envs : Vo) : List Addr := envs.fs
noncomputable abbrev zss (envs : Vo) : List Addr := envs.fs ++ envs.its
theorem Vo.sub (envs : Vo) : ∀ b ∈ frs envs, b ∈ zss envs := fun _ h => List.mem_append_left _ h
structure Good (C : Cx) (envs : Vo) (σ : St) (ow : Nat → Option Nat) (s : Shared) : Prop where
  stays : C.base.StaysIn s.heap
  frames : s.heap.FunFrames C.base envs.l
  apart : ∀ b ∈ envs.its, b ∉ envs.fs
  mem : ∀ b, b ∈ zss envs → C.base.get? b = Option.none ∧ ∃ o, s.heap.get? b = some o
  sub : ∀ env ∈ envs.l, ∀ L, env.frame = some L → L ∈ envs.fs
  store : ∀ a o, σ a = some o → ORep C (Zs σ ow (zss envs)) ow s.heap a o
  parts : ∀ b a, ow b = some a → σ b = Option.none ∧ C.base.get? b = Option.none ∧ (s.heap.get? b).isSome = true
  fresh : ∀ a, (σ a).isSome = true → C.base.get? a = Option.none
  off : ∀ L ∈ zss envs, ¬ Own σ ow L
  gens : s.gens = #[]
theorem ORep.live {C : Cx} {Z : Nat → Prop} {ow : Nat → Option Nat} {h : Heap} {a : Addr} {o : AObj} (x : ORep C Z ow h a o) : (h.get? a).isSome = true := by
  cases o with
  | list xs => obtain ⟨_, ⟨_, _, e⟩, _⟩ := x; rw [e]; rfl
  | dictI es => obtain ⟨_, ⟨_, _, _, e, _⟩, _⟩ := x; rw [e]; rfl
  | dictS es => obtain ⟨_, ⟨_, _, _, e, _⟩, _⟩ := x; rw [e]; rfl
  | inst c fs => obtain ⟨_, _, _, e, _⟩ := x; rw [e]; rfl
theorem Good.live {C : Cx} {envs : Vo} {σ : St} {ow : Nat → Option Nat} {s : Shared} (G : Good C envs σ ow s) {b : Addr} (x : Own σ ow b) : ∃ o, s.heap.get? b = some o := by
  rcases x with x | x
  · obtain ⟨o, e⟩ := Option.isSome_iff_exists.mp x
    exact Option.isSome_iff_exists.mp (G.store b o e).live
  · obtain ⟨a, e⟩ := Option.isSome_iff_exists.mp x
    exact Option.isSome_iff_exists.mp (G.parts b a e).2.2
theorem Good.ownBase {C : Cx} {envs : Vo} {σ : St} {ow : Nat → Option Nat} {s : Shared} (G : Good C envs σ ow s) {b : Addr} (x : Own σ ow b) : C.base.get? b = Option.none := by
  rcases x with x | x
  · exact G.fresh b x
  · obtain ⟨a, e⟩ := Option.isSome_iff_exists.mp x
    exact (G.parts b a e).2.1
structure Stp (fs : List Addr) (O O' : Nat → Prop) (s s' : Shared) : Prop where
  keep : ∀ b o, s.heap.get? b = some o → ¬ O b → b ∉ fs → s'.heap.get? b = some o
  frm : ∀ b o, s.heap.get? b = some o → b ∈ fs → ∃ sl, s'.heap.get? b = some { o with slots := sl }
  grow : ∀ b, O b → O' b
  fresh : ∀ b, O' b → O b ∨ s.heap.get? b = Option.none
  gens : s'.gens = s.gens
  drawn : s'.drawn = s.drawn
  os : s'.os = s.os
theorem Stp.refl (fs : List Addr) (O : Nat → Prop) (s : Shared) : Stp fs O O s s := ⟨fun _ _ e _ _ => e, fun _ o e _ => ⟨o.slots, e⟩, fun _ x => x, fun _ x => .inl x, rfl, rfl, rfl⟩
theorem Stp.tk {fs : List Addr} {O O' : Nat → Prop} {s s' : Shared} (x : Stp fs O O' s s') (t : Nat) : Stp fs O O' s { s' with toks := t } := ⟨x.keep, x.frm, x.grow, x.fresh, x.gens, x.drawn, x.os⟩
theorem Stp.trans {fs : List Addr} {O₁ O₂ O₃ : Nat → Prop} {s₁ s₂ s₃ : Shared} (x : Stp fs O₁ O₂ s₁ s₂) (y : Stp fs O₂ O₃ s₂ s₃) : Stp fs O₁ O₃ s₁ s₃ where
  keep := fun b o e n m => y.keep b o (x.keep b o e n m) (fun q => (x.fresh b q).elim n fun z => by rw [e] at z; cases z) m
  frm := fun b o e m => by
    obtain ⟨sl, e1⟩ := x.frm b o e m
    obtain ⟨sl', e2⟩ := y.frm b _ e1 m
    exact ⟨sl', e2⟩
  grow := fun b z => y.grow b (x.grow b z)
  fresh := fun b z => by
    by_cases q : O₁ b
    · exact .inl q
    · refine .inr ?_
      rcases y.fresh b z with z | z
      · exact (x.fresh b z).elim (fun w => absurd w q) id
      · cases e : s₁.heap.get? b with
        | none => rfl
        | some o =>
          by_cases m : b ∈ fs
          · obtain ⟨sl, e1⟩ := x.frm b o e m
            rw [e1] at z; cases z
          · rw [x.keep b o e q m] at z; cases z
  gens := y.gens.trans x.gens
  drawn := y.drawn.trans x.drawn
  os := y.os.trans x.os
theorem Stp.kp {fs zs : List Addr} {O O' : Nat → Prop} {s s' : Shared} (x : Stp fs O O' s s') (hs : ∀ b ∈ fs, b ∈ zs) : Kp (fun b => O b ∨ b ∈ zs) s.heap s'.heap := fun b o e n => x.keep b o e (fun q => n (.inl q)) fun q => n (.inr (hs b q))
theorem Stp.zg {fs zs : List Addr} {O O' : Nat → Prop} {s s' : Shared} (x : Stp fs O O' s s') : Zg (fun b => O b ∨ b ∈ zs) (fun b => O' b ∨ b ∈ zs) s.heap := fun b q => by
  rcases q with q | q
  · exact (x.fresh b q).imp .inl id
  · exact .inl (.inr q)
theorem Stp.vr {C : Cx} {envs : Vo} {σ σ' : St} {ow ow' : Nat → Option Nat} {s s' : Shared} (x : Stp (frs envs) (Own σ ow) (Own σ' ow') s s') {v : AV} {u : Value} (r : VR C (Zs σ ow (zss envs)) s.heap v u) : VR C (Zs σ' ow' (zss envs)) s'.heap v u := r.kp (x.kp envs.sub) x.zg
theorem Stp.vrs {C : Cx} {envs : Vo} {σ σ' : St} {ow ow' : Nat → Option Nat} {s s' : Shared} (x : Stp (frs envs) (Own σ ow) (Own σ' ow') s s') {v : List AV} {u : List Value} (r : VRs C (Zs σ ow (zss envs)) s.heap v u) : VRs C (Zs σ' ow' (zss envs)) s'.heap v u := r.kp (x.kp envs.sub) x.zg
noncomputable def xt (env : Env) (O : Nat → Prop) (h : Heap) (x : Str) (val : Value) : Prop :=
  (env.kindOf x = some .local ∧ ∃ m, h.Ns env.locals m ∧ m x = some val) ∨
  ∃ c, (env.kindOf x = some .cell ∨ env.kindOf x = some .free) ∧ env.cells.lookup x = some c ∧ h.IsCell c (some val) ∧ ¬ O c
structure LocOk (C : Cx) (env : Env) (nms : List Str) (fs : List Addr) (O : Nat → Prop) (h : Heap) (ρ : Loc) : Prop where
  kind : env.scope.kind = .function
  glob : env.globals = mainGlobals
  blt : env.builtins = builtinsNs
  offL : ¬ O env.locals
  val : ∀ i v, gz ρ i = some v → ∃ x val, nms[i]? = some x ∧ VR C (fun b => O b ∨ b ∈ fs) h v val ∧ xt env O h x val
theorem Ns.slots {h h' : Heap} {a : Addr} {m : Str → Option Value} (k : ∀ o, h.get? a = some o → ∃ sl, h'.get? a = some { o with slots := sl }) (x : h.Ns a m) : h'.Ns a m := by
  obtain ⟨o, es, ep, ho, hd, r⟩ := x
  obtain ⟨sl, e⟩ := k o ho
  exact ⟨_, es, ep, e, hd, r⟩
theorem Stp.up {fs : List Addr} {O O' : Nat → Prop} {s s' : Shared} (x : Stp fs O O' s s') {b : Addr} (n : ¬ O b) (o : Obj) (e : s.heap.get? b = some o) : ∃ sl, s'.heap.get? b = some { o with slots := sl } := by
  by_cases m : b ∈ fs
  · exact x.frm b o e m
  · exact ⟨o.slots, x.keep b o e n m⟩
theorem LocOk.stp {C : Cx} {env : Env} {nms : List Str} {envs : Vo} {O O' : Nat → Prop} {s s' : Shared} {ρ : Loc} (x : Stp (frs envs) O O' s s') (l : LocOk C env nms (zss envs) O s.heap ρ) (lv : ∃ o, s.heap.get? env.locals = some o) : LocOk C env nms (zss envs) O' s'.heap ρ where
  kind := l.kind
  glob := l.glob
  blt := l.blt
  offL := fun q => (x.fresh _ q).elim l.offL fun z => by obtain ⟨o, e⟩ := lv; rw [e] at z; cases z
  val := fun i v e => by
    obtain ⟨y, val, a, r, b⟩ := l.val i v e
    refine ⟨y, val, a, r.kp (x.kp envs.sub) x.zg, ?_⟩
    rcases b with ⟨k, m, hn, hm⟩ | ⟨c, k, hc, hv, hz⟩
    · exact .inl ⟨k, m, Ns.slots (x.up l.offL) hn, hm⟩
    · obtain ⟨o, e, d⟩ := hv
      obtain ⟨sl, e'⟩ := x.up hz o e
      refine .inr ⟨c, k, hc, ⟨_, e', d⟩, fun q => (x.fresh _ q).elim hz fun z => by rw [e] at z; cases z⟩
end Ap
end
section
namespace Ap
open PySem PySem.Calls PyProof.Rows
section
variable {C : Cx} {envs : Vo} {σ : St} {ow : Nat → Option Nat} {s : Shared}
theorem Good.tk (G : Good C envs σ ow s) (t : Nat) : Good C envs σ ow { s with toks := t } := ⟨G.stays, G.frames, G.apart, G.mem, G.sub, G.store, G.parts, G.fresh, G.off, G.gens⟩
theorem Stp.toks {fs : List Addr} {O : Nat → Prop} (t : Nat) : Stp fs O O s { s with toks := t } := (Stp.refl fs O s).tk t
theorem ORep.kp {Z Z' : Nat → Prop} {ow ow' : Nat → Option Nat} {h h' : Heap} {a : Addr} (k : Kp Z h h') (g : Zg Z Z' h) (ka : h'.get? a = h.get? a)
    (kd : ∀ dx, ow dx = some a → h'.get? dx = h.get? dx ∧ ow' dx = some a) {o : AObj} (r : ORep C Z ow h a o) : ORep C Z' ow' h' a o := by
  cases o with
  | list xs =>
    obtain ⟨vs, ⟨z, n, e⟩, x⟩ := r
    exact ⟨vs, ⟨z, n, ka.trans e⟩, x.kp k g⟩
  | dictI es =>
    obtain ⟨kvs, ⟨o, e1, ep, e, r⟩, z, x, y⟩ := r
    exact ⟨kvs, ⟨o, e1, ep, ka.trans e, r⟩, z, x, y.kp k g⟩
  | dictS es =>
    obtain ⟨kvs, ⟨o, e1, ep, e, r⟩, z, x, y⟩ := r
    exact ⟨kvs, ⟨o, e1, ep, ka.trans e, r⟩, z, x, y.kp k g⟩
  | inst c fs =>
    obtain ⟨o, dx, mA, e1, e2, e3, e4, e5, e6, e7, e8, r⟩ := r
    exact ⟨o, dx, mA, ka.trans e1, e2, e3, e4, e5, (kd dx e6).2, e7.at (fun o e => (kd dx e6).1.trans e), e8, r.kp k g⟩
theorem Good.ext (G : Good C envs σ ow s) {h' : Heap} (k : ∀ b o, s.heap.get? b = some o → h'.get? b = some o) (t : Nat) : Good C envs σ ow { s with heap := h', toks := t } where
  stays := fun b o e => k b o (G.stays b o e)
  frames := G.frames.of_keeps fun b o e _ => ⟨o, k b o e, rfl⟩
  apart := G.apart
  mem := fun b m => ⟨(G.mem b m).1, (G.mem b m).2.imp fun o e => k b o e⟩
  sub := G.sub
  store := fun a o e => by
    have x := G.store a o e
    obtain ⟨oa, ea⟩ := Option.isSome_iff_exists.mp x.live
    exact x.kp (fun b o e _ => k b o e) (Zg.refl _ _) (by rw [ea]; exact k a oa ea) fun dx hd => by
      obtain ⟨od, ed⟩ := Option.isSome_iff_exists.mp (G.parts dx a hd).2.2
      exact ⟨by rw [ed]; exact k dx od ed, hd⟩
  parts := fun b a e => ⟨(G.parts b a e).1, (G.parts b a e).2.1, by
    obtain ⟨od, ed⟩ := Option.isSome_iff_exists.mp (G.parts b a e).2.2
    rw [k b od ed]; rfl⟩
  fresh := G.fresh
  off := G.off
  gens := G.gens
theorem Stp.ext {fs : List Addr} {O : Nat → Prop} {h' : Heap} (k : ∀ b o, s.heap.get? b = some o → h'.get? b = some o) (t : Nat) : Stp fs O O s { s with heap := h', toks := t } :=
  ⟨fun b o e _ _ => k b o e, fun b o e _ => ⟨o.slots, k b o e⟩, fun _ x => x, fun _ x => .inl x, rfl, rfl, rfl⟩
theorem Good.new (G : Good C envs σ ow s) : σ s.heap.objs.size = Option.none ∧ ow s.heap.objs.size = Option.none ∧ s.heap.objs.size ∉ zss envs := by
  refine ⟨?_, ?_, fun m => ?_⟩
  · cases e : σ s.heap.objs.size with
    | none => rfl
    | some o =>
      obtain ⟨ob, q⟩ := G.live (b := s.heap.objs.size) (.inl (by rw [e]; rfl))
      exact absurd (Heap.lt_size q) (Nat.lt_irrefl _)
  · cases e : ow s.heap.objs.size with
    | none => rfl
    | some o =>
      obtain ⟨ob, q⟩ := G.live (b := s.heap.objs.size) (.inr (by rw [e]; rfl))
      exact absurd (Heap.lt_size q) (Nat.lt_irrefl _)
  · obtain ⟨_, o, e⟩ := G.mem _ m
    exact absurd (Heap.lt_size e) (Nat.lt_irrefl _)
theorem Good.newZ (G : Good C envs σ ow s) : ¬ Zs σ ow (zss envs) s.heap.objs.size := by
  obtain ⟨a, b, c⟩ := G.new
  rintro ((q | q) | q)
  · rw [a] at q; cases q
  · rw [b] at q; cases q
  · exact c q
theorem iG (σ : St) (a : Nat) (o : AObj) : upd σ a o a = some o := if_pos rfl
theorem cQ (σ : St) {a b : Nat} (o : AObj) (h : b ≠ a) : upd σ a o b = σ b := if_neg h
theorem fY {a b : Nat} {o : AObj} (h : Own (upd σ a o) ow b) : Own σ ow b ∨ b = a := by
  by_cases e : b = a
  · exact .inr e
  · rcases h with h | h
    · rw [cQ σ o e] at h; exact .inl (.inl h)
    · exact .inl (.inr h)
theorem sN {a b : Nat} {o : AObj} (h : Own σ ow b) : Own (upd σ a o) ow b := by
  by_cases e : b = a
  · subst e; exact .inl (by rw [iG]; rfl)
  · rcases h with h | h
    · exact .inl (by rw [cQ σ o e]; exact h)
    · exact .inr h
theorem mW {a : Nat} {o : AObj} {fs : List Addr} {h : Heap} (n : h.get? a = Option.none ∨ Own σ ow a) : Zg (Zs σ ow fs) (Zs (upd σ a o) ow fs) h := fun b q => by
  rcases q with q | q
  · rcases fY q with q | q
    · exact .inl (.inl q)
    · subst q
      rcases n with n | n
      · exact .inr n
      · exact .inl (.inl n)
  · exact .inl (.inr q)
theorem Good.alloc (G : Good C envs σ ow s) {ob : Obj} {o : AObj} {h' : Heap} (k : ∀ b o, s.heap.get? b = some o → h'.get? b = some o) {a : Addr} (na : s.heap.get? a = Option.none) (nf : a ∉ zss envs)
    (live : h'.get? a = some ob) (rep : ORep C (Zs (upd σ a o) ow (zss envs)) ow h' a o) (t : Nat) : Good C envs (upd σ a o) ow { s with heap := h', toks := t } where
  stays := fun b o e => k b o (G.stays b o e)
  frames := G.frames.of_keeps fun b o e _ => ⟨o, k b o e, rfl⟩
  apart := G.apart
  mem := fun b m => ⟨(G.mem b m).1, (G.mem b m).2.imp fun o e => k b o e⟩
  sub := G.sub
  store := fun b o' e => by
    by_cases q : b = a
    · subst q
      rw [iG] at e
      cases e
      exact rep
    · rw [cQ σ o q] at e
      have x := G.store b o' e
      obtain ⟨oa, ea⟩ := Option.isSome_iff_exists.mp x.live
      exact x.kp (fun b o e _ => k b o e) (mW (.inl na)) (by rw [ea]; exact k b oa ea) fun dx hd => by
        obtain ⟨od, ed⟩ := Option.isSome_iff_exists.mp (G.parts dx b hd).2.2
        exact ⟨by rw [ed]; exact k dx od ed, hd⟩
  parts := fun b c e => by
    obtain ⟨x1, x2, x3⟩ := G.parts b c e
    obtain ⟨od, ed⟩ := Option.isSome_iff_exists.mp x3
    refine ⟨?_, x2, by show (h'.get? b).isSome = true; rw [k b od ed]; rfl⟩
    rw [cQ σ o (fun q => by subst q; rw [na] at ed; cases ed)]
    exact x1
  fresh := fun b e => by
    by_cases q : b = a
    · subst q
      cases z : C.base.get? b with
      | none => rfl
      | some o => rw [G.stays b o z] at na; cases na
    · rw [cQ σ o q] at e; exact G.fresh b e
  off := fun L hL q => by
    rcases fY q with q | q
    · exact G.off L hL q
    · exact nf (q ▸ hL)
  gens := G.gens
theorem Stp.alloc {fs : List Addr} {o : AObj} {h' : Heap} (k : ∀ b o, s.heap.get? b = some o → h'.get? b = some o) {a : Addr} (na : s.heap.get? a = Option.none) (t : Nat) : Stp fs (Own σ ow) (Own (upd σ a o) ow) s { s with heap := h', toks := t } :=
  ⟨fun b o e _ _ => k b o e, fun b o e _ => ⟨o.slots, k b o e⟩, fun _ x => sN x, fun b x => (fY x).imp id fun q => by subst q; exact na, rfl, rfl, rfl⟩
theorem Good.change (G : Good C envs σ ow s) {o₀ o : AObj} {h' : Heap} {a d : Addr} (ha : σ a = some o₀) (hd : d = a ∨ ow d = some a) (k : ∀ b ob, b ≠ d → s.heap.get? b = some ob → h'.get? b = some ob) (kl : (h'.get? d).isSome = true)
    (rep : ORep C (Zs (upd σ a o) ow (zss envs)) ow h' a o) (t : Nat) : Good C envs (upd σ a o) ow { s with heap := h', toks := t } := by
  have hO : Own σ ow d := by
    rcases hd with rfl | hd
    · exact .inl (by rw [ha]; rfl)
    · exact .inr (by rw [hd]; rfl)
  have hK : Kp (Zs σ ow (zss envs)) s.heap h' := fun b ob e n => k b ob (fun q => n (.inl (q ▸ hO))) e
  have hE : ∀ b, (s.heap.get? b).isSome = true → b ≠ d → h'.get? b = s.heap.get? b := fun b hl nd => by
    obtain ⟨ob, e⟩ := Option.isSome_iff_exists.mp hl
    rw [e]; exact k b ob nd e
  refine ⟨fun b ob e => ?_, ?_, G.apart, fun b m => ?_, G.sub, fun b o' e => ?_, fun b c e => ?_, fun b e => ?_, fun L hL q => ?_, G.gens⟩
  · exact k b ob (fun q => by subst q; rw [G.ownBase hO] at e; cases e) (G.stays b ob e)
  · have : ∀ l : List Env, (∀ L ∈ l.filterMap (·.frame), L ≠ d) → s.heap.FunFrames C.base l → h'.FunFrames C.base l := by
      intro l
      induction l with
      | nil => intro _ _; trivial
      | cons env r ih =>
        rintro hn ⟨hk, ⟨L, ob, hf, hb, ho, hdt⟩, hr⟩
        refine ⟨hk, ⟨L, ob, hf, hb, ?_, hdt⟩, ih (fun L hL => hn L ?_) hr⟩
        · exact k L ob (hn L (by simp [List.filterMap_cons, hf])) ho
        · rw [List.filterMap_cons, hf]; exact List.mem_cons_of_mem _ hL
    exact this envs.l (fun L hL q => by
      obtain ⟨env, he, hf⟩ := List.mem_filterMap.mp hL
      exact G.off L (envs.sub _ (G.sub env he L hf)) (q ▸ hO)) G.frames
  · obtain ⟨x, ob, e⟩ := G.mem b m
    exact ⟨x, ob, k b ob (fun q => G.off b m (q ▸ hO)) e⟩
  · by_cases q : b = a
    · subst q
      rw [iG] at e
      cases e
      exact rep
    · rw [cQ σ o q] at e
      have nb : b ≠ d := fun z => by
        subst z
        rcases hd with hd | hd
        · exact q hd
        · rw [(G.parts _ _ hd).1] at e; cases e
      exact (G.store b o' e).kp hK (mW (.inr (.inl (by rw [ha]; rfl)))) (hE b (G.store b o' e).live nb) fun dx hdx => ⟨hE dx (G.parts _ _ hdx).2.2 (fun z => by
        subst z
        rcases hd with hd | hd
        · subst hd; rw [(G.parts _ _ hdx).1] at ha; cases ha
        · rw [hdx] at hd; cases hd; exact q rfl), hdx⟩
  · obtain ⟨x1, x2, x3⟩ := G.parts b c e
    refine ⟨?_, x2, ?_⟩
    · rw [cQ σ o (fun q => by subst q; rw [x1] at ha; cases ha)]; exact x1
    · show (h'.get? b).isSome = true
      by_cases q : b = d
      · subst q; exact kl
      · rw [hE b x3 q]; exact x3
  · by_cases q : b = a
    · subst q; exact G.fresh b (by rw [ha]; rfl)
    · rw [cQ σ o q] at e; exact G.fresh b e
  · rcases fY q with q | q
    · exact G.off L hL q
    · subst q; exact G.off L hL (.inl (by rw [ha]; rfl))
theorem Stp.change (G : Good C envs σ ow s) {o₀ o : AObj} {h' : Heap} {a d : Addr} (ha : σ a = some o₀) (hd : d = a ∨ ow d = some a) (k : ∀ b ob, b ≠ d → s.heap.get? b = some ob → h'.get? b = some ob) (t : Nat) : Stp (frs envs) (Own σ ow) (Own (upd σ a o) ow) s { s with heap := h', toks := t } := by
  have hO : Own σ ow d := by
    rcases hd with rfl | hd
    · exact .inl (by rw [ha]; rfl)
    · exact .inr (by rw [hd]; rfl)
  refine ⟨fun b ob e n _ => k b ob (fun q => n (q ▸ hO)) e, fun b ob e m => ⟨ob.slots, k b ob (fun q => G.off b (envs.sub _ m) (q ▸ hO)) e⟩, fun _ x => sN x, fun b x => .inl ?_, rfl, rfl, rfl⟩
  rcases fY x with q | q
  · exact q
  · subst q; exact .inl (by rw [ha]; rfl)
end
end Ap
end
section
namespace Ap
open PySem PySem.Calls PyProof.Rows
noncomputable def ExO (h : Heap) (e : Addr) (cls : Value) (t : Option (Addr × Value)) : Prop :=
  ∃ oe vs a0, h.get? e = some oe ∧ oe.dict = Option.none ∧ oe.cls = cls ∧ oe.data = .fields vs ∧ vs[0]? = some a0 ∧ vs[2]? = some .none ∧
    (match t with
    | Option.none => vs[1]? = some .none
    | some (T, fl) => vs[1]? = some (.ref T) ∧ T ≠ e ∧ ∃ oT ts, h.get? T = some oT ∧ oT.data = .fields ts ∧ ts[3]? = some fl)
noncomputable def ThrA (C : Cx) (ok : Value → Prop) (Z : Nat → Prop) (h₀ : Heap) (e : Addr) (c : Nat) (h : Heap) : Prop :=
  (h₀.get? e = Option.none ∧ ¬ Z e ∧ c ∈ C.xcs) ∧ ∃ t, ExO h e (.ref (C.clsA c)) t ∧ ∀ T fl, t = some (T, fl) → ok fl ∧ h₀.get? T = Option.none ∧ ¬ Z T
noncomputable abbrev Thr (C : Cx) (Z : Nat → Prop) (h₀ : Heap) (e : Addr) (c : Nat) (h : Heap) : Prop := ThrA C (· = .none) Z h₀ e c h
noncomputable abbrev zD (C : Cx) (L : Addr) (Z : Nat → Prop) (h₀ : Heap) (e : Addr) (c : Nat) (h : Heap) : Prop := ThrA C (fun v => v = .none ∨ v = rawInt L) Z h₀ e c h
theorem ThrA.mono {C : Cx} {ok ok' : Value → Prop} {Z Z' : Nat → Prop} {h₀ h : Heap} {e : Addr} {c : Nat} (a : ∀ v, ok v → ok' v) (b : ∀ a, Z' a → Z a) (x : ThrA C ok Z h₀ e c h) : ThrA C ok' Z' h₀ e c h := by
  obtain ⟨⟨n1, n2, n3⟩, t, x1, x2⟩ := x
  exact ⟨⟨n1, fun q => n2 (b _ q), n3⟩, t, x1, fun T fl e => ⟨a _ (x2 T fl e).1, (x2 T fl e).2.1, fun q => (x2 T fl e).2.2 (b _ q)⟩⟩
noncomputable def HOk (A : Around) (q : Bool) (Z : Nat → Prop) (h : Heap) : Prop :=
  A.handled = Option.none ∨ q = true ∧ ∃ e o vs, A.handled = some (.ref e) ∧ h.get? e = some o ∧ o.data = .fields vs ∧ vs[2]? = some .none ∧ ¬ Z e
structure Ok (C : Cx) (A : Around) (q : Bool) (env : Env) (envs : Vo) (nms : List Str) (ρ : Loc) (σ : St) (ow : Nat → Option Nat) (s : Shared) : Prop where
  good : Good C envs σ ow s
  loc : LocOk C env nms (zss envs) (Own σ ow) s.heap ρ
  hnd : HOk A q (Zs σ ow (zss envs)) s.heap
  live : ∃ o, s.heap.get? env.locals = some o
theorem HOk.stp {A : Around} {q : Bool} {envs : Vo} {σ σ' : St} {ow ow' : Nat → Option Nat} {s s' : Shared} (x : Stp (frs envs) (Own σ ow) (Own σ' ow') s s') (h : HOk A q (Zs σ ow (zss envs)) s.heap) : HOk A q (Zs σ' ow' (zss envs)) s'.heap := by
  rcases h with h | ⟨hq, e, o, vs, h1, h2, h3, h4, h5⟩
  · exact .inl h
  · exact .inr ⟨hq, e, o, vs, h1, x.kp envs.sub _ _ h2 h5, h3, h4, x.zg.not h2 h5⟩
theorem Ok.stp {C : Cx} {A : Around} {q : Bool} {env : Env} {envs : Vo} {nms : List Str} {ρ : Loc} {σ σ' : St} {ow ow' : Nat → Option Nat} {s s' : Shared} (k : Ok C A q env envs nms ρ σ ow s)
    (x : Stp (frs envs) (Own σ ow) (Own σ' ow') s s') (g : Good C envs σ' ow' s') : Ok C A q env envs nms ρ σ' ow' s' :=
  ⟨g, k.loc.stp x k.live, k.hnd.stp x, by
    obtain ⟨o, e⟩ := k.live
    obtain ⟨sl, e'⟩ := x.up k.loc.offL o e
    exact ⟨_, e'⟩⟩
noncomputable def KV (C : Cx) (envs : Vo) (σ : St) (ow : Nat → Option Nat) (s : Shared) {α β : Type} (R : (Nat → Prop) → Heap → α → β → Prop) (Qa : α → St → Prop) (Q : β → Shared → Prop) : Prop :=
  ∀ v av σ' ow' s', Qa av σ' → Stp (frs envs) (Own σ ow) (Own σ' ow') s s' → Good C envs σ' ow' s' → R (Zs σ' ow' (zss envs)) s'.heap av v → Q v s'
noncomputable def KX (C : Cx) (envs : Vo) (σ : St) (ow : Nat → Option Nat) (s : Shared) (Ea : PE) (E : Value → Shared → Prop) : Prop :=
  ∀ e c σ' ow' s', Ea c σ' → Stp (frs envs) (Own σ ow) (Own σ' ow') s s' → Good C envs σ' ow' s' → Thr C (Zs σ' ow' (zss envs)) s.heap e c s'.heap → E (.ref e) s'
noncomputable def Snd (C : Cx) (A : Around) (q : Bool) (env : Env) (envs : Vo) (nms : List Str) (ρ : Loc) {α β : Type} (R : (Nat → Prop) → Heap → α → β → Prop) (t : Sem β) (W : St → (α → St → Prop) → PE → Prop) : Prop :=
  ∀ σ ow s Qa Ea Q E, W σ Qa Ea → Ok C A q env envs nms ρ σ ow s → KV C envs σ ow s R Qa Q → KX C envs σ ow s Ea E → wpAny (model C.prog C.w) A t Q E s
noncomputable abbrev RV (C : Cx) (Z : Nat → Prop) (h : Heap) (av : AV) (v : Value) : Prop := VR C Z h av v
noncomputable abbrev RB (C : Cx) (_ : Nat → Prop) (_ : Heap) (a b : Bool) : Prop := a = b
noncomputable abbrev RL (C : Cx) (Z : Nat → Prop) (h : Heap) (av : List AV) (v : List Value) : Prop := VRs C Z h av v
section
variable {C : Cx} {A : Around} {env : Env} {envs : Vo} {nms : List Str} {ρ : Loc}
theorem ThrA.up {ok : Value → Prop} {Z : Nat → Prop} {h₀ h₁ h : Heap} {e : Addr} {c : Nat} (k : ∀ b, h₁.get? b = Option.none → h₀.get? b = Option.none) (x : ThrA C ok Z h₁ e c h) : ThrA C ok Z h₀ e c h := by
  obtain ⟨⟨n1, n2⟩, t, x1, x2⟩ := x
  exact ⟨⟨k _ n1, n2⟩, t, x1, fun T fl e => ⟨(x2 T fl e).1, k _ (x2 T fl e).2.1, (x2 T fl e).2.2⟩⟩
theorem Stp.back {fs : List Addr} {σ σ' : St} {ow ow' : Nat → Option Nat} {s s' : Shared} (x : Stp fs (Own σ ow) (Own σ' ow') s s') {envs : Vo} (hf : fs = frs envs) (g' : Good C envs σ' ow' s') (b : Addr) (n : s'.heap.get? b = Option.none) : s.heap.get? b = Option.none := by
  cases e : s.heap.get? b with
  | none => rfl
  | some o =>
    exfalso
    by_cases q : Own σ ow b
    · obtain ⟨ob, z⟩ := g'.live (x.grow b q)
      rw [n] at z; cases z
    · obtain ⟨sl, z⟩ := x.up q o e
      rw [n] at z; cases z
theorem KX.stp {σ σ' : St} {ow ow' : Nat → Option Nat} {s s' : Shared} {Ea : PE} {E : Value → Shared → Prop} (x : Stp (frs envs) (Own σ ow) (Own σ' ow') s s') (g : Good C envs σ' ow' s') (k : KX C envs σ ow s Ea E) : KX C envs σ' ow' s' Ea E :=
  fun e c σ'' ow'' s'' a y g' t => k e c σ'' ow'' s'' a (x.trans y) g' (ThrA.up (x.back rfl g) t)
theorem KV.stp {α β : Type} {R : (Nat → Prop) → Heap → α → β → Prop} {Qa : α → St → Prop} {Q : β → Shared → Prop} {σ σ' : St} {ow ow' : Nat → Option Nat} {s s' : Shared} (x : Stp (frs envs) (Own σ ow) (Own σ' ow') s s') (k : KV C envs σ ow s R Qa Q) : KV C envs σ' ow' s' R Qa Q :=
  fun v av σ'' ow'' s'' a y g' r => k v av σ'' ow'' s'' a (x.trans y) g' r
theorem KV.val {σ : St} {ow : Nat → Option Nat} {s : Shared} {Qa : PQ} {Q : Value → Shared → Prop} (g : Good C envs σ ow s) (k : KV C envs σ ow s (RV C) Qa Q) {av : AV} {v : Value} (t : Nat) (a : Qa av σ) (r : VR C (Zs σ ow (zss envs)) s.heap av v) : Q v { s with toks := t } :=
  k v av σ ow _ a (Stp.toks t) (g.tk t) r
theorem KV.here {α β : Type} {R : (Nat → Prop) → Heap → α → β → Prop} {σ : St} {ow : Nat → Option Nat} {s : Shared} {Qa : α → St → Prop} {Q : β → Shared → Prop} (g : Good C envs σ ow s) (k : KV C envs σ ow s R Qa Q) {av : α} {v : β} (a : Qa av σ) (r : R (Zs σ ow (zss envs)) s.heap av v) : Q v s :=
  k v av σ ow s a (Stp.refl _ _ _) g r
theorem KV.pushed {σ : St} {ow : Nat → Option Nat} {s : Shared} {Qa : PQ} {Q : Value → Shared → Prop} (g : Good C envs σ ow s) (k : KV C envs σ ow s (RV C) Qa Q) {av : AV} {v : Value} {o : Obj} (t : Nat) (a : Qa av σ)
    (r : VR C (Zs σ ow (zss envs)) (s.heap.push o) av v) : Q v { s with heap := s.heap.push o, toks := t } :=
  have q : ∀ b o', s.heap.get? b = some o' → (s.heap.push o).get? b = some o' := fun _ _ e => Heap.get?_push_of_some o e
  k v av σ ow _ a (Stp.ext q t) (g.ext q t) r
theorem VR.push {σ : St} {ow : Nat → Option Nat} {s : Shared} {o : Obj} {av : AV} {v : Value} (r : VR C (Zs σ ow (zss envs)) s.heap av v) : VR C (Zs σ ow (zss envs)) (s.heap.push o) av v :=
  r.kp (fun _ _ e _ => Heap.get?_push_of_some o e) (Zg.refl _ _)
theorem VRs.push {σ : St} {ow : Nat → Option Nat} {s : Shared} {o : Obj} {av : List AV} {v : List Value} (r : VRs C (Zs σ ow (zss envs)) s.heap av v) : VRs C (Zs σ ow (zss envs)) (s.heap.push o) av v :=
  r.kp (fun _ _ e _ => Heap.get?_push_of_some o e) (Zg.refl _ _)
theorem qf {σ : St} {ow : Nat → Option Nat} {s : Shared} {Qa : PQ} {Q : Value → Shared → Prop} (g : Good C envs σ ow s) (k : KV C envs σ ow s (RV C) Qa Q) {own : Bool} {xs : List AV} {vs : List Value} {n : Nat} (t : Nat)
    (hz : vs.length ≤ 16777216) (w : mkL own xs σ Qa) (r : VRs C (Zs σ ow (zss envs)) s.heap xs vs) : Q (.ref s.heap.objs.size) { s with heap := s.heap.push { cls := .type "list", data := .seq vs.toArray n }, toks := t } := by
  have q : ∀ b o', s.heap.get? b = some o' → (s.heap.push { cls := .type "list", data := .seq vs.toArray n }).get? b = some o' := fun _ _ e => Heap.get?_push_of_some _ e
  have li : IsL (s.heap.push { cls := .type "list", data := .seq vs.toArray n }) s.heap.objs.size vs := ⟨hz, n, Heap.get?_push_size _ rfl⟩
  have na : s.heap.get? s.heap.objs.size = Option.none := by
    cases e : s.heap.get? s.heap.objs.size with
    | none => rfl
    | some o => exact absurd (Heap.lt_size e) (Nat.lt_irrefl _)
  cases own with
  | false => exact k.pushed g t w (.ilist li g.newZ (r.kp (fun _ _ e _ => q _ _ e) (Zg.refl _ _)))
  | true =>
    refine k _ _ _ ow _ (w s.heap.objs.size g.new.1) (Stp.alloc q na t) (g.alloc (o := .list xs) q na g.new.2.2 (Heap.get?_push_size _ rfl) ⟨vs, li, r.kp (fun _ _ e _ => q _ _ e) (mW (.inl na))⟩ t) (.obj _)
end
end Ap
end
section
namespace Ap
open PySem PySem.Calls PyProof.Rows
noncomputable def uJ (f : Int → Int → St → PQ → Prop) : O2 := fun a b σ Q => match a with
  | .int x => (match b with
    | .int y => f x y σ Q
    | _ => False)
  | _ => False
noncomputable def cV : O2 := uJ fun x y σ Q => Q (.int (x + y)) σ
noncomputable def iX : O2 := uJ fun x y σ Q => Q (.int (x - y)) σ
noncomputable def uA : O2 := uJ fun x y σ Q => (x.natAbs < 2 ^ 63 ∨ y.natAbs < 2 ^ 63) ∧ Q (.int (x * y)) σ
noncomputable def bv : O2 := uJ fun x y σ Q => y ≠ 0 ∧ Q (.int (x.fmod y)) σ
noncomputable def bE : O2 := uJ fun x y σ Q => (y ≠ 0 ∧ y.natAbs < 1073741824) ∧ Q (.int (x.fdiv y)) σ
noncomputable def tE : O2 := fun a b σ Q => match a with
  | .str x => (match b with
    | .str y => x.length + y.length ≤ 1000000 ∧ Q (.str (x ++ y)) σ
    | _ => False)
  | _ => False
noncomputable def gY : O2 := fun a b σ Q => match a with
  | .ilist xs => (match b with
    | .int i => 0 ≤ i ∧ kn Q σ xs[i.toNat]?
    | _ => False)
  | _ => False
noncomputable def aV : O2 := fun a b σ Q => match a with
  | .tup xs => (match b with
    | .int i => 0 ≤ i ∧ kn Q σ xs[i.toNat]?
    | _ => False)
  | _ => False
noncomputable def oSl (own : Bool) (lo hi : Nat) : O1 := fun v σ Q => match v with
  | .ilist xs => mkL own ((xs.take hi).drop lo) σ Q
  | _ => False
noncomputable def uh (f : Int → Int → Bool) : OC := fun a b σ K => match a with
  | .int x => (match b with
    | .int y => K (f x y)
    | _ => False)
  | _ => False
noncomputable def cLt : OC := uh fun x y => decide (x < y)
noncomputable def cLe : OC := uh fun x y => decide (x ≤ y)
noncomputable def cGt : OC := uh fun x y => decide (x > y)
noncomputable def vU : ON := fun vs σ Q => ∃ xs, vs = [.ilist xs] ∧ Q (.int xs.length) σ
noncomputable def tA : ON := fun vs σ Q => ∃ a b c, vs = [.int a, .int b, .int c] ∧ Q (.int (if b < a then (if c < b then c else b) else (if c < a then c else a))) σ
noncomputable def mJ : ON := fun vs σ Q => ∃ a b, vs = [.int a, .int b] ∧ Q (.int (if b > a then b else a)) σ
noncomputable def oM : ON := fun vs σ Q => ∃ b, vs = [.bool b] ∧ Q (.int (if b then 1 else 0)) σ
noncomputable def BinSnd (C : Cx) (op : Operator) (f : O2) : Prop :=
  ∀ (A : Around) (envs : Vo) σ ow s (Qa : PQ) (Q : Value → Shared → Prop) E va vb a b, Good C envs σ ow s → KV C envs σ ow s (RV C) Qa Q → VR C (Zs σ ow (zss envs)) s.heap va a → VR C (Zs σ ow (zss envs)) s.heap vb b → f va vb σ Qa → wpAny (model C.prog C.w) A (binaryOp op a b) Q E s
noncomputable def kQ (C : Cx) (f : O2) : Prop :=
  ∀ (A : Around) (envs : Vo) σ ow s (Qa : PQ) (Q : Value → Shared → Prop) E va vb a b value slice, (∀ o i, subscripted slice false o i = operate [o, i] (getItem o i)) → Good C envs σ ow s → KV C envs σ ow s (RV C) Qa Q → VR C (Zs σ ow (zss envs)) s.heap va a → VR C (Zs σ ow (zss envs)) s.heap vb b → f va vb σ Qa →
    wpAny (model C.prog C.w) A (subscriptTail value slice a b) Q E s
noncomputable def CmpSnd (C : Cx) (op : CmpOp) (f : OC) : Prop :=
  ∀ (A : Around) (envs : Vo) σ ow s (K : Bool → Prop) (Q : Value → Shared → Prop) E va vb a b, A.units + 64 < cLine → Good C envs σ ow s → VR C (Zs σ ow (zss envs)) s.heap va a → VR C (Zs σ ow (zss envs)) s.heap vb b → f va vb σ K → (∀ r t, K r → Q (.bool r) { s with toks := t }) →
    wpAny (model C.prog C.w) A (compareOp op a b) Q E s
noncomputable def fL (C : Cx) (q : Bool) (fv : Value) (f : ON) : Prop :=
  ∀ (A : Around) (envs : Vo) σ ow s (Qa : PQ) (Q : Value → Shared → Prop) E vs vals, (q = false → A.handled = Option.none) → Good C envs σ ow s → KV C envs σ ow s (RV C) Qa Q → VRs C (Zs σ ow (zss envs)) s.heap vs vals → f vs σ Qa → wpAny (model C.prog C.w) A (call fv vals) Q E s
section
variable {C : Cx}
theorem BinSnd.ii {op : Operator} {f : Int → Int → St → PQ → Prop} (h : ∀ (A : Around) (envs : Vo) σ ow s (Qa : PQ) (Q : Value → Shared → Prop) E x y t u, Good C envs σ ow s → KV C envs σ ow s (RV C) Qa Q → f x y σ Qa → wpAny (model C.prog C.w) A (binaryOp op (.int x t) (.int y u)) Q E s) :
    BinSnd C op (uJ f) := by
  intro A envs σ ow s Qa Q E va vb a b g k ra rb w
  cases ra <;> first | exact False.elim w | skip
  cases rb <;> first | exact False.elim w | skip
  exact h A envs σ ow s Qa Q E _ _ _ _ g k w
theorem bO : BinSnd C .Add cV := .ii fun A envs σ ow s Qa Q E x y t u g k w => add_int (k.val g _ w (.int _ _))
theorem dw : BinSnd C .Sub iX := .ii fun A envs σ ow s Qa Q E x y t u g k w => sub_int (k.val g _ w (.int _ _))
theorem me : BinSnd C .Mult uA := .ii fun A envs σ ow s Qa Q E x y t u g k w => by
  refine mul_int (k.val g _ w.2 (.int _ _)) ?_
  rcases w.1 with h | h
  · exact IntMulOk.of_left (intBits_le_64 (by omega) (by omega))
  · exact IntMulOk.of_right (intBits_le_64 (by omega) (by omega))
theorem aF : BinSnd C .Mod bv := .ii fun A envs σ ow s Qa Q E x y t u g k w => mod_int' w.1 (k.val g _ w.2 (.int _ _))
theorem bh : BinSnd C .FloorDiv bE := .ii fun A envs σ ow s Qa Q E x y t u g k w => floordiv_int w.1.1 (k.val g _ w.2 (.int _ _)) (.inl (PyProof.noPylong_small w.1.2))
theorem gF {x y : Str} (hx : PyData.strOk x = true) (hy : PyData.strOk y = true) : PyData.strOk (x ++ y) = true := by
  unfold PyData.strOk at *
  show (x.cps ++ y.cps).all _ = true
  rw [Array.all_append, hx, hy]; rfl
theorem qT : BinSnd C .Add tE := by
  intro A envs σ ow s Qa Q E va vb a b g k ra rb w
  cases ra <;> first | exact False.elim w | skip
  cases rb <;> first | exact False.elim w | skip
  rename_i ok1 _ _ ok2
  exact add_str (fun t' tk => k.val g tk w.2 (.str _ _ (gF ok1 ok2))) (by have := w.1; unfold sizeLine; omega)
theorem gH {Q : PQ} {σ : St} {o : Option AV} (h : kn Q σ o) : ∃ v, o = some v ∧ Q v σ := by
  cases o with
  | none => exact False.elim h
  | some v => exact ⟨v, rfl, h⟩
theorem kr {i : Int} {n : Nat} (h0 : 0 ≤ i) (h : i.toNat < n) : seqIndex? i n = some i.toNat := by
  unfold seqIndex?
  simp only [show ¬ (i < 0) by omega, if_false]
  rw [if_pos (by rw [Bool.and_eq_true, decide_eq_true_eq, decide_eq_true_eq]; omega)]
theorem my : kQ C gY := by
  intro A envs σ ow s Qa Q E va vb a b value slice hp g k ra rb w
  cases ra <;> first | exact False.elim w | skip
  rename_i li off r
  cases rb <;> first | exact False.elim w | skip
  obtain ⟨v, e, w'⟩ := gH w.2
  obtain ⟨u, e', r'⟩ := r.get _ _ e
  have hlt := (List.getElem?_eq_some_iff.mp e').1
  have hz := li.1
  have h0 := w.1
  exact tail_any li.isList.typeIs slot_list_getitem.lookup (wpAny_getItem_list li.isList h0 (by omega) (by rw [List.getElem?_toArray]; exact e') (k.here g w' r')) (hp _ _)
theorem bM : kQ C aV := by
  intro A envs σ ow s Qa Q E va vb a b value slice hp g k ra rb w
  cases ra <;> first | exact False.elim w | skip
  rename_i li off r
  cases rb <;> first | exact False.elim w | skip
  obtain ⟨v, e, w'⟩ := gH w.2
  obtain ⟨u, e', r'⟩ := r.get _ _ e
  have hlt := (List.getElem?_eq_some_iff.mp e').1
  have hz := li.1
  have h0 := w.1
  exact tail_any (IsTup.typeIs li.isTuple) slot_tuple_getitem.lookup (PyProof.Rows.getItem_tuple li.isTuple (by omega) (by omega) (kr h0 (by rw [List.size_toArray]; exact hlt)) (by rw [List.getElem?_toArray]; exact e') (k.here g w' r')) (hp _ _)
theorem CmpSnd.ii {op : CmpOp} {f : Int → Int → Bool} (h : ∀ (A : Around) s (Q : Value → Shared → Prop) E x y t u, Q (.bool (f x y)) s → wpAny (model C.prog C.w) A (compareOp op (.int x t) (.int y u)) Q E s) : CmpSnd C op (uh f) := by
  intro A envs σ ow s K Q E va vb a b hu g ra rb w k
  cases ra <;> first | exact False.elim w | skip
  cases rb <;> first | exact False.elim w | skip
  exact h A s Q E _ _ _ _ (k _ s.toks w)
theorem rC : CmpSnd C .Lt cLt := .ii fun A s Q E x y t u h => PyProof.Rows.lt_int h
theorem rj : CmpSnd C .LtE cLe := .ii fun A s Q E x y t u h => PyProof.Rows.le_int h
theorem tf : CmpSnd C .Gt cGt := .ii fun A s Q E x y t u h => PyProof.Rows.gt_int h
theorem KV.grown {envs : Vo} {σ : St} {ow : Nat → Option Nat} {s : Shared} {Qa : PQ} {Q : Value → Shared → Prop} (g : Good C envs σ ow s) (k : KV C envs σ ow s (RV C) Qa Q) {h' : Heap} {t : Nat} {av : AV} {v : Value} (e : ∀ b o, s.heap.get? b = some o → h'.get? b = some o) (a : Qa av σ)
    (r : VR C (Zs σ ow (zss envs)) h' av v) : Q v { s with heap := h', toks := t } := k v av σ ow _ a (Stp.ext e t) (g.ext e t) r
theorem AF : fL C true (.builtin "len") vU := by
  intro A envs σ ow s Qa Q E vs vals hq g k r w
  obtain ⟨xs, rfl, w⟩ := w
  cases r with | cons r1 r2 =>
  cases r2
  cases r1 with | ilist li off r =>
  refine len_list li.isList (by have := li.1; rw [List.size_toArray]; omega) ?_
  rw [List.size_toArray, ← r.length]
  exact k.val g _ w (.int _ _)
theorem yL : fL C false (.builtin "min") tA := by
  intro A envs σ ow s Qa Q E vs vals hq g k r w
  obtain ⟨a, b, c, rfl, w⟩ := w
  cases r with | cons r1 r2 =>
  cases r2 with | cons r2 r3 =>
  cases r3 with | cons r3 r4 =>
  cases r4; cases r1; cases r2; cases r3
  refine min_three_ints (hq rfl) fun h' tk e => ?_
  split at w <;> rename_i hc <;> split at w <;> rename_i hd
  · rw [if_pos hc, if_pos hd]; exact k.grown g e w (.int _ _)
  · rw [if_pos hc, if_neg hd]; exact k.grown g e w (.int _ _)
  · rw [if_neg hc, if_pos hd]; exact k.grown g e w (.int _ _)
  · rw [if_neg hc, if_neg hd]; exact k.grown g e w (.int _ _)
theorem xT : fL C false (.builtin "max") mJ := by
  intro A envs σ ow s Qa Q E vs vals hq g k r w
  obtain ⟨a, b, rfl, w⟩ := w
  cases r with | cons r1 r2 =>
  cases r2 with | cons r2 r3 =>
  cases r3; cases r1; cases r2
  refine max_two_ints (hq rfl) fun h' tk e => ?_
  split at w <;> rename_i hc
  · rw [if_pos hc]; exact k.grown g e w (.int _ _)
  · rw [if_neg hc]; exact k.grown g e w (.int _ _)
theorem wZ : fL C true (.type "int") oM := by
  intro A envs σ ow s Qa Q E vs vals hq g k r w
  obtain ⟨b, rfl, w⟩ := w
  cases r with | cons r1 r2 =>
  cases r2; cases r1
  exact call_int_bool (k.val g _ w (.int _ _))
end
end Ap
end
section
namespace Ap
open PySem PySem.Calls PyProof.Rows
noncomputable def jc {α β : Type} (f : α → Option β) : List α → Option (List β)
  | [] => some []
  | x :: xs => (f x).bind fun d => (jc f xs).map (d :: ·)
noncomputable def rd : Nat → St → AV → Option PyData
  | 0, _, _ => Option.none
  | n + 1, σ, v => match v with
    | .none => some .none
    | .bool b => some (.bool b)
    | .int i => some (.int i)
    | .str s => some (.str s)
    | .tup xs => (jc (rd n σ) xs).map .tuple
    | .ilist xs => (jc (rd n σ) xs).map .list
    | .obj a => (dS σ (.obj a)).bind fun xs => (jc (rd n σ) xs).map .list
    | .exn _ => Option.none
noncomputable def cEq : OC := fun a b σ K => ∃ x y, rd 8 σ a = some x ∧ rd 8 σ b = some y ∧ K (PyData.eqv x y)
noncomputable def cNe : OC := fun a b σ K => ∃ x y, rd 8 σ a = some x ∧ rd 8 σ b = some y ∧ K (!PyData.eqv x y)
section
variable {C : Cx} {A : Around} {envs : Vo} {σ : St} {ow : Nat → Option Nat} {s : Shared}
theorem cW {a : Nat} {xs : List AV} (e : dS σ (.obj a) = some xs) : σ a = some (.list xs) := by
  have e' : (match σ a with | some (.list xs) => some xs | _ => Option.none) = some xs := e
  cases h : σ a with
  | none => rw [h] at e'; cases e'
  | some o =>
    rw [h] at e'
    cases o <;> first | (cases e'; rfl) | cases e'
theorem jJ {n : Nat} {Z : Nat → Prop} {h : Heap} (f : AV → Option PyData) (ih : ∀ v u d, VR C Z h v u → f v = some d → (∃ as, Reads h u d as) ∧ d.canLay0 = true ∧ d.depth ≤ n) :
    ∀ {xs : List AV} {vs : List Value} {ds : List PyData}, VRs C Z h xs vs → jc f xs = some ds → (∃ as, ReadsAll h vs ds as) ∧ PyData.canLayAll0 ds = true ∧ PyData.depthAll ds ≤ n := by
  intro xs
  induction xs with
  | nil =>
    intro vs ds r e
    cases r
    cases e
    exact ⟨⟨_, .nil⟩, rfl, Nat.zero_le _⟩
  | cons x xs hx =>
    intro vs ds r e
    cases r with | cons hd tl =>
    obtain ⟨d, e1, e2⟩ := Option.bind_eq_some_iff.mp e
    obtain ⟨ds', e3, rfl⟩ := Option.map_eq_some_iff.mp e2
    obtain ⟨⟨as, r⟩, c, dp⟩ := ih _ _ _ hd e1
    obtain ⟨⟨bs, rs⟩, cs, dps⟩ := hx tl e3
    refine ⟨⟨_, .cons r rs⟩, ?_, Nat.max_le.mpr ⟨dp, dps⟩⟩
    show (d.canLay0 && PyData.canLayAll0 ds') = true
    rw [c, cs]; rfl
theorem jZ (g : Good C envs σ ow s) : ∀ (n : Nat) (v : AV) (u : Value) (d : PyData), VR C (Zs σ ow (zss envs)) s.heap v u → rd n σ v = some d → (∃ as, Reads s.heap u d as) ∧ d.canLay0 = true ∧ d.depth ≤ n := by
  intro n
  induction n with
  | zero => intro v u d r e; cases e
  | succ n ih =>
    intro v u d r e
    cases r with
    | none => cases e; exact ⟨⟨_, .none⟩, rfl, Nat.zero_le _⟩
    | bool b => cases e; exact ⟨⟨_, .bool b⟩, rfl, Nat.zero_le _⟩
    | int i t => cases e; exact ⟨⟨_, .int i t⟩, rfl, Nat.zero_le _⟩
    | str x t ok => cases e; exact ⟨⟨_, .str x t⟩, ok, Nat.zero_le _⟩
    | tup at_ off r =>
      obtain ⟨ds, e', rfl⟩ := Option.map_eq_some_iff.mp e
      obtain ⟨⟨as, rs⟩, c, dp⟩ := jJ (rd n σ) ih r e'
      obtain ⟨_, m, ho⟩ := at_
      exact ⟨⟨_, .tuple ho rfl rfl rs⟩, c, Nat.succ_le_succ dp⟩
    | ilist at_ off r =>
      obtain ⟨ds, e', rfl⟩ := Option.map_eq_some_iff.mp e
      obtain ⟨⟨as, rs⟩, c, dp⟩ := jJ (rd n σ) ih r e'
      obtain ⟨_, m, ho⟩ := at_
      exact ⟨⟨_, .list ho rfl rfl rs⟩, c, Nat.succ_le_succ dp⟩
    | obj a =>
      obtain ⟨xs, e1, e2⟩ := Option.bind_eq_some_iff.mp e
      obtain ⟨ds, e', rfl⟩ := Option.map_eq_some_iff.mp e2
      obtain ⟨vs, ⟨_, m, ho⟩, r⟩ := g.store a _ (cW e1)
      obtain ⟨⟨as, rs⟩, c, dp⟩ := jJ (rd n σ) ih r e'
      exact ⟨⟨_, .list ho rfl rfl rs⟩, c, Nat.succ_le_succ dp⟩
    | exn at_ cls dt off => cases e
theorem cF : CmpSnd C .Eq cEq := by
  intro A envs σ ow s K Q E va vb a b hu g ra rb w k
  obtain ⟨x, y, e1, e2, w⟩ := w
  obtain ⟨⟨as, r1⟩, c1, d1⟩ := jZ g 8 _ _ _ ra e1
  obtain ⟨⟨bs, r2⟩, c2, d2⟩ := jZ g 8 _ _ _ rb e2
  exact SeqAt.compareEq_reads r1 r2 c1 c2 (by omega) (k _ s.toks w)
theorem gp : CmpSnd C .NotEq cNe := by
  intro A envs σ ow s K Q E va vb a b hu g ra rb w k
  obtain ⟨x, y, e1, e2, w⟩ := w
  obtain ⟨⟨as, r1⟩, c1, d1⟩ := jZ g 8 _ _ _ ra e1
  obtain ⟨⟨bs, r2⟩, c2, d2⟩ := jZ g 8 _ _ _ rb e2
  exact SeqAt.compareNe_reads r1 r2 c1 c2 (by omega) (k _ s.toks w)
theorem VRs.drop {Z : Nat → Prop} {h : Heap} : ∀ {xs : List AV} {vs : List Value}, VRs C Z h xs vs → ∀ n : Nat, VRs C Z h (xs.drop n) (vs.drop n) := by
  intro xs
  induction xs with
  | nil => intro vs r n; cases r; rw [List.drop_nil, List.drop_nil]; exact .nil
  | cons x xs ih =>
    intro vs r n
    cases n with
    | zero => exact r
    | succ n => cases r with | cons hd tl => exact ih tl n
theorem VRs.take {Z : Nat → Prop} {h : Heap} : ∀ {xs : List AV} {vs : List Value}, VRs C Z h xs vs → ∀ n : Nat, VRs C Z h (xs.take n) (vs.take n) := by
  intro xs
  induction xs with
  | nil => intro vs r n; cases r; rw [List.take_nil, List.take_nil]; exact .nil
  | cons x xs ih =>
    intro vs r n
    cases n with
    | zero => exact .nil
    | succ n => cases r with | cons hd tl => exact .cons hd (ih tl n)
theorem nP (vs : List Value) (lo hi : Nat) : slicePick vs.toArray (some (lo : Int)) (some (hi : Int)) Option.none = ((vs.take hi).drop lo).toArray := by
  rw [slicePick_plain]
  congr 1
  show List.take (clipAt vs.length (hi : Int) - clipAt vs.length (lo : Int)) (List.drop (clipAt vs.length (lo : Int)) vs) = _
  rw [clipAt_nat, clipAt_nat]
  rw [List.drop_take]
  by_cases h : lo ≤ vs.length
  · rw [Nat.min_eq_left h]
    by_cases h2 : hi ≤ vs.length
    · rw [Nat.min_eq_left h2]
    · rw [Nat.min_eq_right (by omega), List.take_of_length_le (by rw [List.length_drop]; omega), List.take_of_length_le (by rw [List.length_drop]; omega)]
  · rw [List.drop_eq_nil_of_le (by omega), List.drop_eq_nil_of_le (by omega), List.take_nil, List.take_nil]
theorem yw {own : Bool} {lo hi : Nat} {value : Expr} {lower upper : Option Expr} {pp : Pos} {va : AV} {a : Value} {t u : Tok} {Qa : PQ} {Q : Value → Shared → Prop} {E : Value → Shared → Prop} (g : Good C envs σ ow s) (k : KV C envs σ ow s (RV C) Qa Q)
    (ra : VR C (Zs σ ow (zss envs)) s.heap va a) (w : oSl own lo hi va σ Qa) :
    wpAny (model C.prog C.w) A (subscriptTail value (.Slice lower upper Option.none pp) a (.ref s.heap.objs.size)) Q E { s with heap := s.heap.push { cls := .type "slice", data := .fields #[.int lo t, .int hi u, .none] } } := by
  have q : ∀ b o', s.heap.get? b = some o' → (s.heap.push { cls := .type "slice", data := .fields #[.int lo t, .int hi u, .none] }).get? b = some o' := fun _ _ e => Heap.get?_push_of_some _ e
  have ra' := VR.push (o := { cls := .type "slice", data := .fields #[.int lo t, .int hi u, .none] }) ra
  cases ra' <;> first | exact False.elim w | skip
  rename_i li off r
  have hz := li.1
  refine tail_any (ops := [.ref s.heap.objs.size, _]) li.isList.typeIs slot_list_getitem.lookup (wpAny_getItem_list_slice li.isList (Heap.IsSliceOf.new _ _ _ _) (.int _ _) (.int _ _) .none (by intro h; cases h) ?_ (by rw [List.size_toArray]; exact hz)) rfl
  rw [nP]
  refine qf (s := { s with heap := s.heap.push { cls := .type "slice", data := .fields #[.int lo t, .int hi u, .none] } }) (g.ext q s.toks) (k.stp (Stp.ext q s.toks)) s.toks ?_ w ((r.take _).drop _)
  rw [List.length_drop, List.length_take]
  omega
end
end Ap
end
section
set_option genSizeOf false
set_option genSizeOfSpec false
namespace Ap
open PySem PySem.Calls PyProof.Rows
structure FnT where
  nms : List Str
  sc : Scope
  body : List Stmt
structure Tabs where
  fts : List FnT
  fnN : List Str
  clsN : List Str
  atN : List Str
  bltN : List Str
structure ClsAt (C : Cx) (T : Tabs) (c : Nat) (ci : ClsI) : Prop where
  ex : ∃ nm q N bs sn sub col dd k0 k1 k2 k3 k5 mN, C.base.get? (C.clsA c) = some (excClassObj nm q (C.clsA c) N bs [.type "object"] true sn sub false col dd k0 k1 k2 k3 k5 "object.__new__") ∧ C.base.Ns N mN ∧
    mN "__getattribute__" = Option.none ∧ mN "__getattr__" = Option.none ∧ mN "__setattr__" = Option.none ∧ (∀ f, ci.init = some f → mN "__init__" = some (.ref (C.fnA f))) ∧
    (∀ m f, ci.meths.lookup m = some f → mN (C.nm m) = some (.ref (C.fnA f))) ∧ ∀ k, ci.meths.lookup k = Option.none → k < T.atN.length → mN (C.nm k) = Option.none
noncomputable def zX (C : Cx) (c : Nat) (t : Value) (b : Bool) : Prop :=
  ∀ A Q E (s : Shared) e o vs, C.base.StaysIn s.heap → s.heap.get? e = some o → o.cls = .ref (C.clsA c) → o.data = .fields vs → o.dict = Option.none → (∀ tk, Q (.bool b) { s with toks := tk }) →
    wpAny (model C.prog C.w) A (call (.builtin "isinstance") [.ref e, t]) Q E s
noncomputable def Cm (C : Cx) (c d : Nat) (b : Bool) : Prop :=
  ∀ A Q E (s : Shared) e o vs, C.base.StaysIn s.heap → s.heap.get? e = some o → o.cls = .ref (C.clsA c) → o.data = .fields vs → o.dict = Option.none → Q b s →
    wpAny (model C.prog C.w) A (excMatches (.ref e) (.ref (C.clsA d))) Q E s
structure ExcAt (C : Cx) (c : Nat) : Prop where
  ex : ∃ nm q N bs bm bmB hdct sn sub ab col dd k0 k1 k2 k3 k5 B newId initId mN, C.base.get? (C.clsA c) = some (excClassObj nm q (C.clsA c) N bs bm hdct sn sub ab col dd k0 k1 k2 k3 k5 newId) ∧ C.base.Ns N mN ∧
    mN "__init__" = Option.none ∧ OwnTail C.base bmB bm ∧ ExcBaseFacts B newId initId bmB ∧ bm.contains (.type "BaseException") = true
structure FnOk (C : Cx) (a : Addr) (ft : FnT) (arity : Nat) : Prop where
  ex : ∃ o fd, C.base.get? a = some o ∧ o.cls = .type "function" ∧ o.data = .func fd ∧ fd.body = .stmts ft.body ∧ fd.scope = ft.sc ∧ fd.globals = mainGlobals ∧ fd.builtins = builtinsNs ∧ fd.closure = [] ∧
    C.base.CodeRec fd.code fd.qualname ∧ ∀ vals : List Value, vals.length = arity → bindArgs fd ⟨vals, []⟩ = pure ((ft.nms.take arity).zip vals)
structure CxOk (C : Cx) (T : Tabs) (P : Prg) : Prop where
  g : C.base.Ns mainGlobals C.mg
  b : C.base.Ns builtinsNs C.mb
  nolimit : C.base.NoLimit
  builtins : ∀ x : Str, x ≠ "__name__" → C.mb x = bootBuiltins x
  fnN : ∀ f x, T.fnN[f]? = some x → x ≠ Str.empty → C.mg x = some (.ref (C.fnA f))
  clsN : ∀ c x, T.clsN[c]? = some x → C.mg x = some (.ref (C.clsA c))
  bltN : ∀ x ∈ T.bltN, C.mg x = Option.none
  nm : ∀ k, C.nm k = T.atN.getD k Str.empty
  inj : T.atN.Nodup
  ne : Str.empty ∉ T.atN
  objN : ∀ x ∈ T.atN, typeLookup (.type "object") x = pure Option.none
  fnF : ∀ f, f < T.fnN.length → ∃ o fd, C.base.get? (C.fnA f) = some o ∧ o.cls = .type "function" ∧ o.data = .func fd
  cls : ∀ c ∈ C.ics, ∃ ci, P.cls[c]? = some ci ∧ ClsAt C T c ci
  ics : ∀ c ci, P.cls[c]? = some ci → ci.init ≠ Option.none → c ∈ C.ics
  xcs : ∀ c ci, P.cls[c]? = some ci → ci.init = Option.none → c ∈ C.xcs
  isiC : ∀ c ∈ C.xcs, ∀ d ∈ C.xcs, ∀ ci, P.cls[c]? = some ci → zX C c (.ref (C.clsA d)) (ci.sups.contains d)
  isiV : ∀ c ∈ C.xcs, zX C c (.type "ValueError") true
  exm : ∀ c ∈ C.xcs, ∀ d ∈ C.xcs, ∀ ci, P.cls[c]? = some ci → Cm C c d (ci.sups.contains d)
  exc : ∀ c ∈ C.xcs, ExcAt C c
  fns : ∀ f fi, P.fns[f]? = some fi → ∃ ft, T.fts[f]? = some ft ∧ FnOk C (C.fnA f) ft fi.arity
section
variable {C : Cx} {T : Tabs} {P : Prg} {A : Around} {q : Bool} {env : Env} {envs : Vo} {nms : List Str} {ρ : Loc} {σ : St} {ow : Nat → Option Nat} {s : Shared} {Qa : PQ} {Q : Value → Shared → Prop} {E : Value → Shared → Prop}
theorem Good.notBase (g : Good C envs σ ow s) {b : Addr} {o : Obj} (e : C.base.get? b = some o) : ¬ Zs σ ow (zss envs) b := by
  rintro (q | q)
  · rw [g.ownBase q] at e; cases e
  · rw [(g.mem _ q).1] at e; cases e
theorem Good.baseVR (g : Good C envs σ ow s) {v : AV} {u : Value} (r : VR C (fun _ => False) C.base v u) : VR C (Zs σ ow (zss envs)) s.heap v u :=
  r.kp (fun b o e _ => g.stays b o e) fun b q => .inr (by
    cases e : C.base.get? b with
    | none => rfl
    | some o => exact absurd q (g.notBase e))
theorem Good.big (X : CxOk C T P) (g : Good C envs σ ow s) : 3 < s.heap.objs.size := by
  obtain ⟨o, _, _, e, _⟩ := X.g
  exact Heap.lt_size (g.stays _ _ e)
theorem yc {i : Nat} {x : Str} {pos : Pos} {v : AV} (hx : nms[i]? = some x) (hd : (x == ("__debug__" : Str)) = false) (hn : (x == ("__classdict__" : Str)) = false) (k : Ok C A q env envs nms ρ σ ow s) (kv : KV C envs σ ow s (RV C) Qa Q)
    (e : gz ρ i = some v) (w : Qa v σ) : wpAny (model C.prog C.w) A (eval (.Name x pos) env) Q E s := by
  obtain ⟨y, val, ey, r, l⟩ := k.loc.val i v e
  rw [hx] at ey
  cases ey
  have fin : Q val s := kv.here k.good w r
  rcases l with ⟨kd, m, hns, hm⟩ | ⟨c, kd, hc, hv, _⟩
  · exact wpAny_Name (wpAny_loadName_local k.loc.kind kd hns hm fin) hd
  · rcases kd with kd | kd
    · exact wpAny_Name (wpAny_loadName_cell k.loc.kind kd hc hv fin) hd
    · exact wpAny_Name (wpAny_loadName_free k.loc.kind kd hc hv fin hn) hd
theorem gname {x : Str} {pos : Pos} {v : Value} (X : CxOk C T P) (hx : env.kindOf x = some .globalImplicit) (hd : (x == ("__debug__" : Str)) = false) (k : Ok C A q env envs nms ρ σ ow s) (e : C.mg x = some v) (h : Q v s) :
    wpAny (model C.prog C.w) A (eval (.Name x pos) env) Q E s :=
  Name_function_global k.loc.kind hx (loadGlobal_global (by rw [k.loc.glob]; exact X.g.keeps k.good.stays) e h) hd
theorem bname {x : Str} {pos : Pos} {v : Value} (X : CxOk C T P) (hx : env.kindOf x = some .globalImplicit) (hd : (x == ("__debug__" : Str)) = false) (k : Ok C A q env envs nms ρ σ ow s) (hm : x ∈ T.bltN) (hn : x ≠ "__name__") (hv : bootBuiltins x = some v) (h : Q v s) :
    wpAny (model C.prog C.w) A (eval (.Name x pos) env) Q E s :=
  Name_function_global k.loc.kind hx (loadGlobal_builtin (by rw [k.loc.glob]; exact X.g.keeps k.good.stays) (X.bltN x hm) (by rw [k.loc.blt]; exact X.b.keeps k.good.stays) ((X.builtins x hn).trans hv) h) hd
theorem ORep.inst {c : Nat} {fs : List (Nat × AV)} {a : Addr} (g : Good C envs σ ow s) (e : σ a = some (.inst c fs)) : ∃ dx mA, s.heap.Inst a (C.clsA c) mA ∧ ow dx = some a ∧ FMap C (Zs σ ow (zss envs)) s.heap fs mA ∧ (∃ o, s.heap.get? a = some o ∧ o.dict = some dx) ∧ c ∈ C.ics := by
  obtain ⟨o, dx, mA, h1, h2, h3, h4, h5, h6, h7, h8, h9⟩ := g.store a _ e
  exact ⟨dx, mA, ⟨o, h1, h2, h3, .inr ⟨dx, h4, h5, h7⟩⟩, h6, h9, ⟨o, h1, h4⟩, h8.1⟩
theorem CxOk.nm_lt (X : CxOk C T P) {f : Nat} {x : Str} (h : T.atN[f]? = some x) : C.nm f = x ∧ f < T.atN.length := by
  refine ⟨by rw [X.nm, List.getD_eq_getElem?_getD, h]; rfl, (List.getElem?_eq_some_iff.mp h).1⟩
theorem CxOk.mem (X : CxOk C T P) {f : Nat} {x : Str} (h : T.atN[f]? = some x) : x ∈ T.atN := List.mem_of_getElem? h
theorem wL {c f : Nat} {x : Str} {va : AV} {a : Value} {expr : Bool} (X : CxOk C T P) (hx : T.atN[f]? = some x) (hp : ∀ ci, P.cls[c]? = some ci → ci.meths.lookup f = Option.none)
    (g : Good C envs σ ow s) (k : KV C envs σ ow s (RV C) Qa Q) (ra : VR C (Zs σ ow (zss envs)) s.heap va a) (w : ay c f va σ Qa) :
    wpAny (model C.prog C.w) A (getAttr a x expr) Q E s := by
  obtain ⟨a, fs, v, rfl, ha, hv, w⟩ := w
  cases ra
  obtain ⟨dx, mA, I, _, fm, _, hci⟩ := ORep.inst g ha
  obtain ⟨ci, h1, h2⟩ := X.cls c hci
  obtain ⟨nm, q, N, bs, sn, sub, col, dd, k0, k1, k2, k3, k5, mN, c1, c2, c3, c4, c5, c6, c7, c8⟩ := h2.ex
  obtain ⟨u, hu, ru⟩ := fm.1 f v hv
  obtain ⟨en, lt⟩ := X.nm_lt hx
  obtain ⟨hh, gg, dd', tt, oo⟩ := s
  refine load_attr (mA := mA) (g.stays _ _ c1) (c2.keeps g.stays) c3 (by rw [← en]; exact c8 f (hp ci h1) lt) (X.objN x (X.mem hx)) I (by rw [← en]; exact hu) ?_ (k.val g _ w ru)
  cases ru <;> rfl
theorem uw {κ : Type} [DecidableEq κ] (k k' : κ) (v : AV) : ∀ es : List (κ × AV), aQ (cb k v es) k' = if k' = k then some v else aQ es k' := by
  have snoc : ∀ es : List (κ × AV), es.any (fun e => e.1 = k) = false → aQ (es ++ [(k, v)]) k' = if k' = k then some v else aQ es k' := by
    intro es h
    unfold aQ
    rw [List.find?_append]
    by_cases q : k' = k
    · subst q
      have : es.find? (fun e => decide (e.1 = k')) = Option.none := by
        rw [List.find?_eq_none]
        intro x hx hq
        have := List.any_eq_false.mp h x hx
        exact this hq
      simp [this]
    · simp [q, Ne.symm q]
  have mp : ∀ es : List (κ × AV), es.any (fun e => e.1 = k) = true → aQ (es.map (fun e => if e.1 = k then (e.1, v) else e)) k' = if k' = k then some v else aQ es k' := by
    intro es
    induction es with
    | nil => intro h; simp at h
    | cons e es ih =>
      intro h
      by_cases q : e.1 = k
      · by_cases z : k' = k
        · subst z; simp [aQ, q]
        · have : ¬ e.1 = k' := fun y => z (y.symm.trans q)
          simp only [List.map_cons, q, if_true, z, if_false]
          have e1 : aQ ((k, v) :: es.map (fun e => if e.1 = k then (e.1, v) else e)) k' = aQ (es.map (fun e => if e.1 = k then (e.1, v) else e)) k' := by simp [aQ, List.find?_cons, Ne.symm z]
          have e2 : aQ (e :: es) k' = aQ es k' := by simp [aQ, List.find?_cons, this]
          rw [e1, e2]
          by_cases a : es.any (fun e => e.1 = k) = true
          · rw [ih a, if_neg z]
          · have hm : es.map (fun e => if e.1 = k then (e.1, v) else e) = es := by
              conv => rhs; rw [← List.map_id es]
              apply List.map_congr_left
              intro y hy
              have : ¬ y.1 = k := fun w => a (List.any_eq_true.mpr ⟨y, hy, by simpa using w⟩)
              simp [this]
            rw [hm]
      · have h' : es.any (fun e => e.1 = k) = true := by simpa [List.any_cons, q] using h
        simp only [List.map_cons, q, if_false]
        by_cases z : e.1 = k'
        · have : ¬ k' = k := fun y => q (z.trans y)
          simp [aQ, List.find?_cons, z, this]
        · have e1 : aQ (e :: es.map (fun e => if e.1 = k then (e.1, v) else e)) k' = aQ (es.map (fun e => if e.1 = k then (e.1, v) else e)) k' := by simp [aQ, List.find?_cons, z]
          have e2 : aQ (e :: es) k' = aQ es k' := by simp [aQ, List.find?_cons, z]
          rw [e1, e2]; exact ih h'
  intro es
  unfold cb
  by_cases h : es.any (fun e => decide (e.1 = k)) = true
  · rw [if_pos h]; exact mp es h
  · rw [if_neg h]; exact snoc es (Bool.eq_false_iff.mpr h)
theorem oH {κ : Type} [DecidableEq κ] (k : κ) (v : AV) (es : List (κ × AV)) : ∀ x, (x ∈ es.map (·.1) ∨ x = k) ↔ x ∈ (cb k v es).map (·.1) := by
  intro x
  unfold cb
  split
  · rename_i h
    have e : (es.map (fun e => if e.1 = k then (e.1, v) else e)).map (·.1) = es.map (·.1) := by
      rw [List.map_map]; apply List.map_congr_left; intro y _; simp only [Function.comp]; split <;> rfl
    rw [e]
    constructor
    · rintro (h1 | rfl)
      · exact h1
      · obtain ⟨y, hy, hq⟩ := List.any_eq_true.mp h
        exact List.mem_map.mpr ⟨y, hy, by simpa using hq⟩
    · exact .inl
  · simp
theorem lU {κ : Type} [DecidableEq κ] (k : κ) (v : AV) (es : List (κ × AV)) : (cb k v es).length ≤ es.length + 1 := by
  unfold cb; split <;> simp
theorem vT {f c : Nat} {x : Str} {a : Addr} {v : AV} {u : Value} {fs : List (Nat × AV)} {Q : Unit → Shared → Prop} (X : CxOk C T P) (hx : T.atN[f]? = some x) (hp : P.cls.all (fun ci => (ci.meths.lookup f).isNone) = true)
    (g : Good C envs σ ow s) (ha : σ a = some (.inst c fs)) (hz : fs.length < 100) (r : VR C (Zs σ ow (zss envs)) s.heap v u)
    (k : ∀ s', Stp (frs envs) (Own σ ow) (Own (upd σ a (.inst c (cb f v fs))) ow) s s' → Good C envs (upd σ a (.inst c (cb f v fs))) ow s' → Q () s') :
    wpAny (model C.prog C.w) A (setAttr (.ref a) x u) Q E s := by
  obtain ⟨o, dx, mA, h1, h2, h3, h4, h5, h6, h7, ⟨hci, h8⟩, fm⟩ := g.store a _ ha
  obtain ⟨ci, q1, q2⟩ := X.cls c hci
  obtain ⟨nm, q, N, bs, sn, sub, col, dd, k0, k1, k2, k3, k5, mN, c1, c2, c3, c4, c5, c6, c7, c8⟩ := q2.ex
  obtain ⟨en, lt⟩ := X.nm_lt hx
  have hm : ci.meths.lookup f = Option.none := by
    have := List.all_eq_true.mp hp ci (List.mem_of_getElem? q1)
    simpa using this
  obtain ⟨hh, gg, dd', tt, oo⟩ := s
  have hxC : a ≠ C.clsA c := fun z => by
    rw [z] at ha
    rw [g.fresh _ (by rw [ha]; rfl)] at c1; cases c1
  refine store_attr (ns := fs.map fun p => C.nm p.1) PySem.F.store_object (g.stays _ _ c1) (c2.keeps g.stays) c5 (by rw [← en]; exact c8 f hm lt) (X.objN x (X.mem hx)) hxC ⟨o, h1, h2, h3, .inr ⟨dx, h4, h5, h7⟩⟩ (fun h' tk' I' hk hsame => ?_) (fun y hy => fm.2 y hy) (by rw [List.length_map]; unfold sizeLine; omega)
  obtain ⟨o₁, e1, e2, e3, e4, e5⟩ := hsame o h1
  have eo : o₁ = o := by
    obtain ⟨a1, a2, a3, a4⟩ := o₁
    obtain ⟨b1, b2, b3, b4⟩ := o
    simp only at e2 e3 e4 e5 h4
    subst e2 e3 e4 h4
    rw [e5 dx rfl]
  subst eo
  have keepF : ∀ b ob, b ≠ dx → hh.get? b = some ob → h'.get? b = some ob := fun b ob nb e => by
    by_cases z : b = a
    · subst z; rw [h1] at e; cases e; exact e1
    · exact hk b ob z (fun o₀ dx' z1 z2 => by rw [h1] at z1; cases z1; rw [h4] at z2; cases z2; exact nb) e
  obtain ⟨o₂, i1, i2, i3, i4⟩ := I'
  rw [e1] at i1
  cases i1
  rcases i4 with ⟨i4, _⟩ | ⟨dx', i4, i5, i6⟩
  · rw [h4] at i4; cases i4
  rw [h4] at i4
  cases i4
  have lvd : (h'.get? dx).isSome = true := by obtain ⟨_, _, _, z, _⟩ := i6; rw [z]; rfl
  have hO : Own σ ow dx := .inr (by rw [h6]; rfl)
  have st := Stp.change (o := .inst c (cb f v fs)) g ha (.inr h6) keepF tk'
  have fm' : FMap C (Zs (upd σ a (.inst c (cb f v fs))) ow (zss envs)) h' (cb f v fs) (fun y => if y = x then some u else mA y) := by
    refine ⟨fun f' v' e => ?_, fun y hy => ?_⟩
    · rw [uw] at e
      by_cases z : f' = f
      · subst z
        rw [if_pos rfl] at e
        cases e
        exact ⟨u, by rw [en]; simp, st.vr r⟩
      · rw [if_neg z] at e
        obtain ⟨u', e', r'⟩ := fm.1 f' v' e
        refine ⟨u', ?_, st.vr r'⟩
        have nx : C.nm f' ≠ x := fun y => z (by
          have hf' : f' < T.atN.length := by
            apply Decidable.byContradiction
            intro hn
            rw [X.nm, List.getD_eq_getElem?_getD, List.getElem?_eq_none (by omega)] at y
            exact X.ne (by rw [show Str.empty = x from y]; exact X.mem hx)
          rw [← en] at y
          rw [X.nm, X.nm, List.getD_eq_getElem?_getD, List.getD_eq_getElem?_getD, List.getElem?_eq_getElem hf', List.getElem?_eq_getElem lt] at y
          exact (List.getElem_inj X.inj).mp y)
        show (if C.nm f' = x then some u else mA (C.nm f')) = some u'
        rw [if_neg nx]; exact e'
    · have : y ∈ ((cb f v fs).map (·.1)).map C.nm := by
        by_cases z : y = x
        · subst z
          exact List.mem_map.mpr ⟨f, (oH f v fs f).mp (.inr rfl), en⟩
        · have hy' : mA y ≠ Option.none := by simpa [z] using hy
          have := fm.2 y hy'
          obtain ⟨p, hp1, rfl⟩ := List.mem_map.mp this
          exact List.mem_map.mpr ⟨p.1, (oH f v fs p.1).mp (.inl (List.mem_map.mpr ⟨p, hp1, rfl⟩)), rfl⟩
      rwa [List.map_map] at this
  have z := lU f v fs
  exact k _ st (g.change (o := .inst c (cb f v fs)) ha (.inr h6) keepF lvd ⟨o₁, dx, _, e1, h2, h3, h4, h5, h6, i6, ⟨hci, by omega⟩, fm'⟩ tk')
end
end Ap
end
section
namespace Ap
open PySem PySem.Calls PyProof.Rows
structure AOkF (A : Around) (envs : Vo) (d : Nat) : Prop where
  frames : A.frames = some envs.l
  depth : A.depth + 3 * d < recursionLimit
  units : A.units + 20 * d + 100 < cLine
structure AOk (A : Around) (envs : Vo) (d : Nat) : Prop where
  frames : A.frames = some envs.l
  depth : A.depth + 3 * d + 2 < recursionLimit
  units : A.units + 20 * d + 110 < cLine
theorem AOk.toF {A : Around} {envs : Vo} {d : Nat} (x : AOk A envs d) : AOkF A envs d := ⟨x.frames, by have := x.depth; omega, by have := x.units; omega⟩
theorem AOk.u64 {A : Around} {envs : Vo} {d : Nat} (x : AOk A envs d) : A.units + 64 < cLine := by have := x.units; omega
theorem AOkF.deeper {A : Around} {envs : Vo} {d : Nat} (x : AOkF A envs (d + 1)) (env : Env) (fs its : List Addr) : AOk (A.deeper env) ⟨env :: envs.l, fs, its⟩ d :=
  ⟨Around.frames_deeper x.frames, by have := x.depth; show A.depth + 1 + 3 * d + 2 < _; omega, by have := x.units; show A.units + 3 + 20 * d + 110 < _; omega⟩
theorem AOk.mark {A : Around} {envs : Vo} {d : Nat} (x : AOk A envs d) (h : Option Value) : AOk (A.mark h) envs d := ⟨x.frames, x.depth, x.units⟩
noncomputable def qOf (P : Prg) (f : Nat) : Bool := ((P.fns[f]?).map (·.quiet)).getD false
noncomputable def bZ (C : Cx) (P : Prg) (d : Nat) (F : Calls) : Prop :=
  ∀ f vs vals σ ow s Qa Ea R A envs, F f vs σ Qa Ea → Good C envs σ ow s → AOkF A envs d → HOk A (qOf P f) (Zs σ ow (zss envs)) s.heap → VRs C (Zs σ ow (zss envs)) s.heap vs vals →
    KV C envs σ ow s (RV C) Qa (fun v s' => R (.ok (.ret v)) s') → KX C envs σ ow s Ea (fun e s' => R (.error e) s') → codeAny (model C.prog C.w) A (.call (.ref (C.fnA f)) ⟨vals, []⟩) R s
noncomputable def dg : Expr → Bool
  | .Starred .. => false
  | _ => true
theorem cq {e : Expr} {rest : List Expr} {env : Env} (h : dg e = true) : starEach (e :: rest) env = (false, eval e env) :: starEach rest env := by
  cases e <;> first | rfl | exact Bool.noConfusion h
theorem bY {es : List Expr} {env : Env} {pos : Pos} (h : es.all dg = true) : (backTo pos (starEach es env)).any (·.1) = false := by
  induction es with
  | nil => rfl
  | cons e es ih =>
    rw [List.all_cons, Bool.and_eq_true] at h
    rw [cq h.1]
    show (false || (backTo pos (starEach es env)).any (·.1)) = false
    rw [ih h.2]; rfl
theorem kj {es : List Expr} {env : Env} {pos : Pos} (h : es.all dg = true) : (backTo pos (starEach es env)).all (fun x => !x.1) = true := by
  induction es with
  | nil => rfl
  | cons e es ih =>
    rw [List.all_cons, Bool.and_eq_true] at h
    rw [cq h.1]
    show (true && (backTo pos (starEach es env)).all (fun x => !x.1)) = true
    rw [ih h.2]; rfl
section
variable {M : Model} {A : Around} {E : Value → Shared → Prop} {s : Shared} {env : Env}
theorem bS {f : Value} {es : List Expr} {pos : Pos} {Q : Args → Shared → Prop} (hs : es.all dg = true) (h : wpAny M A (spliced (backTo pos (starEach es env))) (fun vs s' => Q ⟨vs, []⟩ s') E s) :
    wpAny M A (evalArgs f true (backTo pos (starEach es env)) []) Q E s := by
  cases es with
  | nil =>
    unfold evalArgs
    show wpAny M A (spliced (backTo pos (starEach [] env)) >>= _) Q E s
    refine wpAny_bind (wpAny_mono h (fun vs s' h' => ?_) fun _ _ x => x)
    refine wpAny_bind (wpAny_pure ?_)
    refine wpAny_holding ?_
    exact wpAny_bind (wpAny_pure (wpAny_bind (wpAny_pure (wpAny_pure h'))))
  | cons e es =>
    rw [List.all_cons, Bool.and_eq_true] at hs
    rw [cq hs.1] at h ⊢
    exact evalArgs_plain h
end
section
variable {C : Cx} {T : Tabs} {P : Prg} {A : Around} {q : Bool} {env : Env} {envs : Vo} {nms : List Str} {ρ : Loc} {σ : St} {ow : Nat → Option Nat} {s : Shared} {Qa : PQ} {Ea : PE} {Q : Value → Shared → Prop} {E : Value → Shared → Prop} {d : Nat} {F : Calls}
theorem qI {f : Nat} {vs : List AV} {vals : List Value} (hF : bZ C P d F) (w : F f vs σ Qa Ea) (g : Good C envs σ ow s) (a : AOkF A envs d) (hh : HOk A (qOf P f) (Zs σ ow (zss envs)) s.heap) (r : VRs C (Zs σ ow (zss envs)) s.heap vs vals)
    (kv : KV C envs σ ow s (RV C) Qa Q) (kx : KX C envs σ ow s Ea E) : wpAny (model C.prog C.w) A (call (.ref (C.fnA f)) vals) Q E s :=
  wpAny_call (hF f vs vals σ ow s Qa Ea _ A envs w g a hh r kv kx)
theorem tj (A : Around) (cc : Addr) (rest : List Value) : (A.under (.builtin "type.__call__" ⟨.ref cc :: rest, []⟩)).frames = A.frames ∧ (A.under (.builtin "type.__call__" ⟨.ref cc :: rest, []⟩)).depth = A.depth + 1 ∧ (A.under (.builtin "type.__call__" ⟨.ref cc :: rest, []⟩)).units = A.units + 1 ∧ (A.under (.builtin "type.__call__" ⟨.ref cc :: rest, []⟩)).handled = A.handled := by
  refine ⟨rfl, ?_, ?_, rfl⟩
  · show A.depth + Code.weight _ = A.depth + 1
    rfl
  · rfl
theorem yF {c f : Nat} {ci : ClsI} {vs : List AV} {vals : List Value} (X : CxOk C T P) (hF : bZ C P d F) (hc : P.cls[c]? = some ci) (hi : ci.init = some f) (hlt : f < T.fnN.length)
    (w : ∀ a, σ a = Option.none → F f (.obj a :: vs) (upd σ a (.inst c [])) (tW a Qa) Ea)
    (g : Good C envs σ ow s) (a : AOk A envs d) (hh : HOk A (qOf P f) (Zs σ ow (zss envs)) s.heap) (r : VRs C (Zs σ ow (zss envs)) s.heap vs vals) (kv : KV C envs σ ow s (RV C) Qa Q) (kx : KX C envs σ ow s Ea E) :
    wpAny (model C.prog C.w) A (call (.ref (C.clsA c)) vals) Q E s := by
  have hci := X.ics c ci hc (by rw [hi]; exact Option.some_ne_none _)
  obtain ⟨ci', q1, q2⟩ := X.cls c hci
  rw [hc] at q1
  cases q1
  obtain ⟨nm, q, N, bs, sn, sub, col, dd, k0, k1, k2, k3, k5, mN, c1, c2, c3, c4, c5, c6, c7, c8⟩ := q2.ex
  obtain ⟨oI, fd, f1, f2, f3⟩ := X.fnF f hlt
  obtain ⟨hh', gg, dd', tt, oo⟩ := s
  refine wpAny_call_obj_init PySem.F.objNew (g.stays _ _ c1) (c2.keeps g.stays) (c6 f hi) (g.stays _ _ f1) f2 fun h' x dx hm => ?_
  obtain ⟨o, i1, i2, i3, i4⟩ := hm.inst
  have nd : dx ≠ x := by
    rcases i4 with ⟨i4, _⟩ | ⟨d', i4, i5, _⟩
    · rw [hm.dict o i1] at i4; cases i4
    · rw [hm.dict o i1] at i4; cases i4; exact i5
  have ns1 : h'.Ns1 dx fun _ => Option.none := by
    rcases i4 with ⟨i4, _⟩ | ⟨d', i4, i5, i6⟩
    · rw [hm.dict o i1] at i4; cases i4
    · rw [hm.dict o i1] at i4; cases i4; exact i6
  have noF : ∀ b, hh'.get? b = Option.none → b ∉ zss envs := fun b e m => by
    obtain ⟨_, o, e'⟩ := g.mem _ m
    have e'' : hh'.get? b = some o := e'
    rw [e] at e''; cases e''
  have sx : σ x = Option.none := by
    cases e : σ x with
    | none => rfl
    | some o =>
      obtain ⟨ob, z⟩ := g.live (b := x) (.inl (by rw [e]; rfl))
      have z' : hh'.get? x = some ob := z
      rw [hm.newX] at z'; cases z'
  have ox : ow x = Option.none := by
    cases e : ow x with
    | none => rfl
    | some o =>
      obtain ⟨ob, z⟩ := g.live (b := x) (.inr (by rw [e]; rfl))
      have z' : hh'.get? x = some ob := z
      rw [hm.newX] at z'; cases z'
  have sdx : σ dx = Option.none := by
    cases e : σ dx with
    | none => rfl
    | some o =>
      obtain ⟨ob, z⟩ := g.live (b := dx) (.inl (by rw [e]; rfl))
      have z' : hh'.get? dx = some ob := z
      rw [hm.newD] at z'; cases z'
  have odx : ow dx = Option.none := by
    cases e : ow dx with
    | none => rfl
    | some o =>
      obtain ⟨ob, z⟩ := g.live (b := dx) (.inr (by rw [e]; rfl))
      have z' : hh'.get? dx = some ob := z
      rw [hm.newD] at z'; cases z'
  -- the ghost owner of the new dict
  let ow' : Nat → Option Nat := fun b => if b = dx then some x else ow b
  have ownU : ∀ b, Own (upd σ x (.inst c [])) ow' b → Own σ ow b ∨ b = x ∨ b = dx := fun b q => by
    by_cases z1 : b = x
    · exact .inr (.inl z1)
    · by_cases z2 : b = dx
      · exact .inr (.inr z2)
      · rcases q with q | q
        · rw [cQ σ _ z1] at q; exact .inl (.inl q)
        · exact .inl (.inr (by simpa [ow', z2] using q))
  have ownG : ∀ b, Own σ ow b → Own (upd σ x (.inst c [])) ow' b := fun b q => by
    rcases q with q | q
    · by_cases z1 : b = x
      · subst z1; rw [sx] at q; cases q
      · exact .inl (by rw [cQ σ _ z1]; exact q)
    · by_cases z2 : b = dx
      · subst z2; rw [odx] at q; cases q
      · exact .inr (by simpa [ow', z2] using q)
  have zg : Zg (Zs σ ow (zss envs)) (Zs (upd σ x (.inst c [])) ow' (zss envs)) hh' := fun b q => by
    rcases q with q | q
    · rcases ownU b q with q | q | q
      · exact .inl (.inl q)
      · subst q; exact .inr hm.newX
      · subst q; exact .inr hm.newD
    · exact .inl (.inr q)
  have st : Stp (frs envs) (Own σ ow) (Own (upd σ x (.inst c [])) ow') ⟨hh', gg, dd', tt, oo⟩ ⟨h', gg, dd', tt, oo⟩ := by
    refine ⟨fun b o e _ _ => hm.keeps b o e, fun b o e _ => ⟨o.slots, hm.keeps b o e⟩, ownG, fun b q => ?_, rfl, rfl, rfl⟩
    rcases ownU b q with q | q | q
    · exact .inl q
    · subst q; exact .inr hm.newX
    · subst q; exact .inr hm.newD
  have bn : ∀ b, hh'.get? b = Option.none → C.base.get? b = Option.none := fun b e => by
    cases z : C.base.get? b with
    | none => rfl
    | some o => have := g.stays b o z; have : hh'.get? b = some o := this; rw [e] at this; cases this
  have gd : Good C envs (upd σ x (.inst c [])) ow' ⟨h', gg, dd', tt, oo⟩ := by
    refine ⟨fun b o e => hm.keeps b o (g.stays b o e), g.frames.of_keeps fun b o e _ => ⟨o, hm.keeps b o e, rfl⟩, g.apart, fun b m => ⟨(g.mem b m).1, (g.mem b m).2.imp fun o e => hm.keeps b o e⟩, g.sub, fun b o' e => ?_, fun b a' e => ?_, fun b e => ?_, fun L hL q => ?_, g.gens⟩
    · by_cases z : b = x
      · subst z
        rw [iG] at e
        cases e
        exact ⟨o, dx, _, i1, i2, i3, hm.dict o i1, nd, by simp [ow'], ns1, ⟨hci, by simp⟩, fun f v e => by simp [aQ] at e, fun y hy => absurd rfl hy⟩
      · rw [cQ σ _ z] at e
        have y := g.store b o' e
        obtain ⟨oa, ea⟩ := Option.isSome_iff_exists.mp y.live
        exact y.kp (fun b o e _ => hm.keeps b o e) zg (by rw [ea]; exact hm.keeps b oa ea) fun dx' hd => by
          obtain ⟨od, ed⟩ := Option.isSome_iff_exists.mp (g.parts dx' b hd).2.2
          refine ⟨by rw [ed]; exact hm.keeps dx' od ed, ?_⟩
          have : dx' ≠ dx := fun w => by subst w; rw [odx] at hd; cases hd
          simpa [ow', this] using hd
    · by_cases z : b = dx
      · subst z
        refine ⟨by rw [cQ σ _ nd]; exact sdx, bn _ hm.newD, ?_⟩
        obtain ⟨_, _, _, z, _⟩ := ns1
        show (h'.get? b).isSome = true
        rw [z]; rfl
      · have e' : ow b = some a' := by simpa [ow', z] using e
        obtain ⟨x1, x2, x3⟩ := g.parts b a' e'
        obtain ⟨od, ed⟩ := Option.isSome_iff_exists.mp x3
        refine ⟨?_, x2, by show (h'.get? b).isSome = true; rw [hm.keeps b od ed]; rfl⟩
        rw [cQ σ _ (fun q => by subst q; have ed' : hh'.get? b = some od := ed; rw [hm.newX] at ed'; cases ed')]
        exact x1
    · by_cases z : b = x
      · subst z; exact bn _ hm.newX
      · rw [cQ σ _ z] at e; exact g.fresh b e
    · rcases ownU L q with q | q | q
      · exact g.off L hL q
      · subst q; exact noF _ hm.newX hL
      · subst q; exact noF _ hm.newD hL
  obtain ⟨u1, u2, u3, u4⟩ := tj A (C.clsA c) vals
  refine qI (envs := envs) (vs := .obj x :: vs) hF (w x sx) gd ⟨?_, ?_, ?_⟩ ?_ (.cons (.obj x) (st.vrs r)) ?_ ?_
  · rw [u1]; exact a.frames
  · rw [u2]; have := a.depth; omega
  · rw [u3]; have := a.units; omega
  · have h2 := hh.stp st
    unfold HOk at h2 ⊢
    rw [u4]; exact h2
  · intro v av σ'' ow'' s'' h1 h2 h3 h4
    cases h4 <;> first | exact False.elim h1 | skip
    exact ⟨rfl, kv _ _ σ'' ow'' s'' h1 (st.trans h2) h3 (.obj x)⟩
  · exact kx.stp st gd
end
end Ap
end
section
namespace Ap
open PySem PySem.Calls PyProof.Rows
section
variable {C : Cx} {T : Tabs} {P : Prg} {A : Around} {q : Bool} {env : Env} {envs : Vo} {nms : List Str} {ρ : Loc} {σ : St} {ow : Nat → Option Nat} {s : Shared} {Qa : PQ} {Ea : PE} {Q : Value → Shared → Prop} {E : Value → Shared → Prop}
noncomputable def tyV : Ty → Value
  | .int => .type "int"
  | .bool => .type "bool"
  | .str => .type "str"
  | .list => .type "list"
  | .tuple => .type "tuple"
theorem tM {t : Ty} {v : AV} {u : Value} (r : VR C (Zs σ ow (zss envs)) s.heap v u) (w : nY t v σ Qa) (h : ∀ tk, Qa (.bool (mc t v)) σ → Q (.bool (mc t v)) { s with toks := tk }) : wpAny (model C.prog C.w) A (call (.builtin "isinstance") [u, tyV t]) Q E s := by
  obtain ⟨p, w⟩ := w
  have h' := fun tk => h tk w
  cases r with
  | none => cases t <;> first | exact IsiPair.NoneType_int (h' _) | exact IsiPair.NoneType_bool (h' _) | exact IsiPair.NoneType_str (h' _) | exact IsiPair.NoneType_list (h' _) | exact IsiPair.NoneType_tuple (h' _)
  | bool b => cases t <;> first | exact IsiPair.bool_int (h' _) | exact IsiPair.bool_bool (h' _) | exact IsiPair.bool_str (h' _) | exact IsiPair.bool_list (h' _) | exact IsiPair.bool_tuple (h' _)
  | int i _ => cases t <;> first | exact IsiPair.int_int (h' _) | exact IsiPair.int_bool (h' _) | exact IsiPair.int_str (h' _) | exact IsiPair.int_list (h' _) | exact IsiPair.int_tuple (h' _)
  | str x _ _ => cases t <;> first | exact IsiPair.str_int (h' _) | exact IsiPair.str_bool (h' _) | exact IsiPair.str_str (h' _) | exact IsiPair.str_list (h' _) | exact IsiPair.str_tuple (h' _)
  | ilist at_ off r =>
    obtain ⟨_, n, hx⟩ := at_
    cases t <;> first | exact IsiPair.list_int hx rfl (h' _) | exact IsiPair.list_bool hx rfl (h' _) | exact IsiPair.list_str hx rfl (h' _) | exact IsiPair.list_list hx rfl (h' _) | exact IsiPair.list_tuple hx rfl (h' _)
  | tup at_ off r =>
    obtain ⟨_, n, hx⟩ := at_
    cases t <;> first | exact IsiPair.tuple_int hx rfl (h' _) | exact IsiPair.tuple_bool hx rfl (h' _) | exact IsiPair.tuple_str hx rfl (h' _) | exact IsiPair.tuple_list hx rfl (h' _) | exact IsiPair.tuple_tuple hx rfl (h' _)
  | obj a => cases p
  | exn a b c d e f => cases p
end
end Ap
end
section
set_option genSizeOf false
namespace Ap
open PySem PySem.Calls PyProof.Rows
structure Xc (fs : List Addr) (e : Addr) (t : Option (Addr × Value)) (h h' : Heap) : Prop where
  keep : ∀ b o, h.get? b = some o → b ∉ fs → ((b ≠ e ∧ ∀ fl, t ≠ some (b, fl)) ∨ ∀ vs, o.data ≠ .fields vs) → h'.get? b = some o
  frm : ∀ b o, h.get? b = some o → (∀ vs, o.data ≠ .fields vs) → ∃ sl, h'.get? b = some { o with slots := sl }
  fld : ∀ b o vs, h.get? b = some o → o.data = .fields vs → ∃ o' vs', h'.get? b = some o' ∧ o'.cls = o.cls ∧ o'.dict = o.dict ∧ o'.data = .fields vs' ∧ vs'[2]? = vs[2]?
theorem Xc.refl (fs : List Addr) (e : Addr) (t : Option (Addr × Value)) (h : Heap) : Xc fs e t h h := ⟨fun _ _ e _ _ => e, fun _ o e _ => ⟨o.slots, e⟩, fun _ o vs e d => ⟨o, vs, e, rfl, rfl, d, rfl⟩⟩
theorem Xc.live {fs : List Addr} {e : Addr} {t : Option (Addr × Value)} {h h' : Heap} (x : Xc fs e t h h') {b : Addr} {o : Obj} (eb : h.get? b = some o) : ∃ o', h'.get? b = some o' := by
  by_cases q : ∃ vs, o.data = .fields vs
  · obtain ⟨vs, d⟩ := q
    obtain ⟨o', _, z, _⟩ := x.fld b o vs eb d
    exact ⟨o', z⟩
  · obtain ⟨sl, z⟩ := x.frm b o eb fun vs d => q ⟨vs, d⟩
    exact ⟨_, z⟩
section
variable {M : Model} {A : Around} {E : Value → Shared → Prop} {s : Shared} {env : Env}
theorem fV {h : Heap} {a : Addr} {o : Obj} {vs : Array Value} (i : Nat) (x : Value) (ho : h.get? a = some o) (hd : o.data = .fields vs) :
    (h.update a (Obj.mapFields (·.setIfInBounds i x))).get? a = some { o with data := .fields (vs.setIfInBounds i x) } ∧ ∀ b, b ≠ a → (h.update a (Obj.mapFields (·.setIfInBounds i x))).get? b = h.get? b := by
  have hd' := Obj.data_mapFields hd (·.setIfInBounds i x)
  refine ⟨?_, fun b hb => Heap.get?_update_other _ _ (Ne.symm hb)⟩
  rw [Heap.get?_update_self (Obj.mapFields (·.setIfInBounds i x)) ho (Obj.isFreed_of_fields hd')]
  obtain ⟨c1, c2, c3, c4⟩ := o
  simp only at hd
  subst hd
  rfl
theorem rP {e T : Addr} {cls fl : Value} {f : Option Addr} {Q : Unit → Shared → Prop} (x : ExO s.heap e cls (some (T, fl)))
    (h : ∀ h', Xc [] e (some (T, fl)) s.heap h' → ExO h' e cls (some (T, f.elim .none fun f => rawInt f)) → Q () { s with heap := h' }) : wpAny M A (setFlight (.ref e) f) Q E s := by
  obtain ⟨oe, vs, a0, x1, x2, x3, x4, x5, x6, x7, x8, oT, ts, x9, x10, x11⟩ := x
  unfold setFlight
  refine wpAny_bind (wpAny_field x1 x4 x7 ?_)
  rw [if_pos (show (Value.ref T != Value.none) = true from by simp)]
  have h3 := (Array.getElem?_eq_some_iff.mp x11).1
  refine wpAny_setField x9 x10 h3 ?_
  obtain ⟨u1, u2⟩ := fV 3 (f.elim Value.none fun f => rawInt f) x9 x10
  have ne : ∀ b o, s.heap.get? b = some o → (∀ vs, o.data ≠ .fields vs) → b ≠ T := fun b o eb nd q => by subst q; rw [x9] at eb; cases eb; exact nd _ x10
  refine h _ ⟨fun b o eb _ nb => (u2 b (nb.elim (fun nb q => nb.2 fl (by rw [q])) (ne b o eb))).trans eb, fun b o eb nd => ⟨o.slots, (u2 b (ne b o eb nd)).trans eb⟩, fun b o ws eb db => ?_⟩ ⟨oe, vs, a0, (u2 e (Ne.symm x8)).trans x1, x2, x3, x4, x5, x6, x7, x8, _, _, u1, rfl, by simp [h3]⟩
  by_cases q : b = T
  · subst q
    rw [x9] at eb
    cases eb
    rw [x10] at db
    cases db
    exact ⟨_, _, u1, rfl, rfl, rfl, by simp⟩
  · exact ⟨o, ws, (u2 b q).trans eb, rfl, rfl, db, rfl⟩
theorem vL {base : Heap} {outer : List Env} {L e : Addr} {cls : Value} {t : Option (Addr × Value)} {Q : Unit → Shared → Prop}
    (hfr : A.frames = some (env :: outer)) (hl : s.heap.FunFrames base (env :: outer)) (hf : env.frame = some L) (x : ExO s.heap e cls t)
    (h : ∀ h' T', Xc ((env :: outer).filterMap (·.frame)) e t s.heap h' → ExO h' e cls (some (T', rawInt L)) → (s.heap.get? T' = Option.none ∨ ∃ fl, t = some (T', fl)) → Q () { s with heap := h' }) :
    wpAny M A (noteFrame (.ref e) env) Q E s := by
  have entry : ∀ (s₁ : Shared) (oe : Obj) (vs : Array Value) (head a0 : Value) (b : Bool) (Q' : Unit → Shared → Prop), s₁.heap.FunFrames base (env :: outer) → s₁.heap.get? e = some oe → oe.data = .fields vs → 1 < vs.size →
      (∀ h', (∀ b o, s₁.heap.get? b = some o → b ≠ e → b ∉ (env :: outer).filterMap (·.frame) → h'.get? b = some o) → (∀ b o, s₁.heap.get? b = some o → b ∈ (env :: outer).filterMap (·.frame) → ∃ sl, h'.get? b = some { o with slots := sl }) →
        (∃ T' oT ts, s₁.heap.get? T' = Option.none ∧ T' ≠ e ∧ h'.get? e = some { oe with data := .fields (vs.setIfInBounds 1 (.ref T')) } ∧ h'.get? T' = some oT ∧ oT.data = .fields ts ∧ ts[3]? = some (rawInt L)) → Q' () { s₁ with heap := h' }) →
      wpAny M A (do setField (.ref e) 1 (← EntryCells.newEntry head (← frameOf env) .none (rawInt L) .none (← entryPlaceOf L b))) Q' E s₁ := by
    intro s₁ oe vs head a0 b Q' hl he hd hsz hQ
    have hene : e ∉ (env :: outer).filterMap (·.frame) := fun hm => by
      obtain ⟨_, o, ho, hnf⟩ := hl.mem hm
      rw [he] at ho; injection ho with ho; subst ho; exact hnf vs hd
    refine wpAny_bind (wpAny_frameOf_fun hfr hl hf fun h₁ hs₁ => ?_)
    refine wpAny_bind (wpAny_entryPlaceOf fun pl hpl => ?_)
    unfold EntryCells.newEntry newFields
    refine wpAny_bind (wpAny_newObj_type ?_ (hpl.sizeOk5 _ _ _ _ _))
    have he₁ : h₁.get? e = some oe := (hs₁.2.1 e hene).trans he
    have he₂ := Heap.get?_push_of_some (h := h₁) { cls := .type "traceback", dict := none, data := .fields ([head, .ref L, .none, rawInt L, .none] ++ (if pl.isEmpty then List.replicate 6 Value.none else pl)).toArray } he₁
    refine wpAny_setField he₂ hd hsz ?_
    have hTe : h₁.objs.size ≠ e := Nat.ne_of_gt (Heap.lt_size he₁)
    obtain ⟨u1, u2⟩ := fV 1 (Value.ref h₁.objs.size) he₂ hd
    refine hQ _ (fun b o eb ne nf => ?_) (fun b o eb m => ?_) ⟨h₁.objs.size, _, _, ?_, hTe, u1, (u2 _ hTe).trans (Heap.get?_push_size h₁ rfl), rfl, ?_⟩
    · exact (u2 b ne).trans (Heap.get?_push_of_some _ ((hs₁.2.1 b nf).trans eb))
    · obtain ⟨sl, hs⟩ := hs₁.2.2 b o eb
      exact ⟨sl, (u2 b fun q => hene (q ▸ m)).trans (Heap.get?_push_of_some _ hs)⟩
    · cases z : s₁.heap.get? h₁.objs.size with
      | none => rfl
      | some o =>
        obtain ⟨sl, hs⟩ := hs₁.2.2 _ o z
        exact absurd (Heap.lt_size hs) (Nat.lt_irrefl _)
    · rcases hpl with rfl | ⟨_, _, _, _, _, _, _, rfl⟩ <;> simp
  obtain ⟨oe, vs, a0, x1, x2, x3, x4, x5, x6, x7⟩ := x
  unfold noteFrame
  simp only [hf]
  cases t with
  | none =>
    refine wpAny_bind (wpAny_field x1 x4 x7 ?_)
    rw [if_neg (by decide)]
    have hsz := (Array.getElem?_eq_some_iff.mp x7).1
    refine entry s oe vs .none a0 _ Q hl x1 x4 hsz fun h' k1 k2 ⟨T', oT, ts, y1, y2, y3, y4, y5, y6⟩ => ?_
    have ne : ∀ b o, s.heap.get? b = some o → (∀ vs, o.data ≠ .fields vs) → b ≠ e := fun b o eb nd q => by subst q; rw [x1] at eb; cases eb; exact nd _ x4
    refine h h' T' ⟨fun b o eb nf nb => k1 b o eb (nb.elim (fun z => z.1) (ne b o eb)) nf, fun b o eb nd => ?_, fun b o ws eb db => ?_⟩ ⟨_, _, a0, y3, x2, x3, rfl, by simpa using x5, by simpa using x6, by simp [hsz], y2, oT, ts, y4, y5, y6⟩ (.inl y1)
    · by_cases m : b ∈ (env :: outer).filterMap (·.frame)
      · exact k2 b o eb m
      · exact ⟨o.slots, k1 b o eb (ne b o eb nd) m⟩
    by_cases q : b = e
    · subst q
      rw [x1] at eb
      cases eb
      rw [x4] at db
      cases db
      exact ⟨_, _, y3, rfl, rfl, rfl, by simp⟩
    · by_cases m : b ∈ (env :: outer).filterMap (·.frame)
      · obtain ⟨_, o', ho', hnf⟩ := hl.mem m
        rw [eb] at ho'
        cases ho'
        exact absurd db (hnf ws)
      · exact ⟨o, ws, k1 b o eb q m, rfl, rfl, db, rfl⟩
  | some p =>
    obtain ⟨T, fl⟩ := p
    obtain ⟨x7, x8, oT, ts, x9, x10, x11⟩ := x7
    refine wpAny_bind (wpAny_field x1 x4 x7 ?_)
    rw [if_pos (show (Value.ref T != Value.none) = true from by simp)]
    refine wpAny_bind (wpAny_field x9 x10 x11 ?_)
    by_cases hq : (fl == rawInt L) = true
    · rw [if_pos hq]
      rw [beq_iff_eq] at hq
      subst hq
      exact wpAny_pure (h s.heap T (Xc.refl _ _ _ _) ⟨oe, vs, a0, x1, x2, x3, x4, x5, x6, x7, x8, oT, ts, x9, x10, x11⟩ (.inr ⟨_, rfl⟩))
    · rw [if_neg hq]
      have h3 := (Array.getElem?_eq_some_iff.mp x11).1
      have hsz := (Array.getElem?_eq_some_iff.mp x7).1
      refine wpAny_bind (wpAny_setField x9 x10 h3 ?_)
      obtain ⟨u1, u2⟩ := fV 3 Value.none x9 x10
      have hl' : (s.heap.update T (Obj.mapFields (·.setIfInBounds 3 Value.none))).FunFrames base (env :: outer) := hl.of_keeps fun b o hb hnf => ⟨o, (u2 b fun q => by subst q; rw [x9] at hb; cases hb; exact hnf _ x10).trans hb, rfl⟩
      refine entry { s with heap := s.heap.update T (Obj.mapFields (·.setIfInBounds 3 Value.none)) } oe vs (.ref T) a0 _ Q hl' ((u2 e (Ne.symm x8)).trans x1) x4 hsz fun h' k1 k2 ⟨T', oT', ts', y1, y2, y3, y4, y5, y6⟩ => ?_
      have nTf : T ∉ (env :: outer).filterMap (·.frame) := fun hm => by
        obtain ⟨_, o, ho, hnf⟩ := hl.mem hm
        rw [x9] at ho; injection ho with ho; subst ho; exact hnf ts x10
      have sT : h'.get? T = some { oT with data := .fields (ts.setIfInBounds 3 Value.none) } := k1 T _ u1 x8 nTf
      have ne : ∀ b o, s.heap.get? b = some o → (∀ vs, o.data ≠ .fields vs) → b ≠ e ∧ b ≠ T := fun b o eb nd => ⟨fun q => by subst q; rw [x1] at eb; cases eb; exact nd _ x4, fun q => by subst q; rw [x9] at eb; cases eb; exact nd _ x10⟩
      have keepB : ∀ b o, s.heap.get? b = some o → b ≠ e → b ≠ T → b ∉ (env :: outer).filterMap (·.frame) → h'.get? b = some o := fun b o eb n1 n2 nf => k1 b o ((u2 b n2).trans eb) n1 nf
      refine h h' T' ⟨fun b o eb nf nb => nb.elim (fun z => keepB b o eb z.1 (fun q => z.2 fl (by rw [q])) nf) fun z => keepB b o eb (ne b o eb z).1 (ne b o eb z).2 nf, fun b o eb nd => ?_, fun b o ws eb db => ?_⟩ ⟨_, _, a0, y3, x2, x3, rfl, by simpa using x5, by simpa using x6, by simp [hsz], y2, oT', ts', y4, y5, y6⟩ (.inl ?_)
      · by_cases m : b ∈ (env :: outer).filterMap (·.frame)
        · exact k2 b o ((u2 b (ne b o eb nd).2).trans eb) m
        · exact ⟨o.slots, keepB b o eb (ne b o eb nd).1 (ne b o eb nd).2 m⟩
      · by_cases q : b = e
        · subst q
          rw [x1] at eb
          cases eb
          rw [x4] at db
          cases db
          exact ⟨_, _, y3, rfl, rfl, rfl, by simp⟩
        · by_cases q' : b = T
          · subst q'
            rw [x9] at eb
            cases eb
            rw [x10] at db
            cases db
            exact ⟨_, _, sT, rfl, rfl, rfl, by simp⟩
          · by_cases m : b ∈ (env :: outer).filterMap (·.frame)
            · obtain ⟨_, o', ho', hnf⟩ := hl.mem m
              rw [eb] at ho'
              cases ho'
              exact absurd db (hnf ws)
            · exact ⟨o, ws, k1 b o ((u2 b q').trans eb) q m, rfl, rfl, db, rfl⟩
      · by_cases q : T' = T
        · subst q
          have y1' : (s.heap.update T' (Obj.mapFields (·.setIfInBounds 3 Value.none))).get? T' = Option.none := y1
          rw [u1] at y1'; cases y1'
        · have y1' : (s.heap.update T (Obj.mapFields (·.setIfInBounds 3 Value.none))).get? T' = Option.none := y1
          rw [u2 T' q] at y1'; exact y1'
end
end Ap
end
section
set_option genSizeOf false
namespace Ap
open PySem PySem.Calls PyProof.Rows
structure SStp (X fs : List Addr) (O O' : Nat → Prop) (s s' : Shared) : Prop where
  keep : ∀ b o, s.heap.get? b = some o → ¬ O b → b ∉ fs → s'.heap.get? b = some o
  frm : ∀ b o, s.heap.get? b = some o → b ∈ fs → b ∉ X → ∃ sl, s'.heap.get? b = some { o with slots := sl }
  liv : ∀ b o, s.heap.get? b = some o → b ∈ fs → ∃ o', s'.heap.get? b = some o'
  grow : ∀ b, O b → O' b
  fresh : ∀ b, O' b → O b ∨ s.heap.get? b = Option.none
  gens : s'.gens = s.gens
  drawn : s'.drawn = s.drawn
  os : s'.os = s.os
theorem Stp.toS {X fs : List Addr} {O O' : Nat → Prop} {s s' : Shared} (x : Stp fs O O' s s') : SStp X fs O O' s s' :=
  ⟨x.keep, fun b o e m _ => x.frm b o e m, fun b o e m => (x.frm b o e m).elim fun _ z => ⟨_, z⟩, x.grow, x.fresh, x.gens, x.drawn, x.os⟩
theorem SStp.refl (X fs : List Addr) (O : Nat → Prop) (s : Shared) : SStp X fs O O s s := (Stp.refl fs O s).toS
theorem SStp.trans {X fs : List Addr} {O₁ O₂ O₃ : Nat → Prop} {s₁ s₂ s₃ : Shared} (x : SStp X fs O₁ O₂ s₁ s₂) (y : SStp X fs O₂ O₃ s₂ s₃) : SStp X fs O₁ O₃ s₁ s₃ where
  keep := fun b o e n m => y.keep b o (x.keep b o e n m) (fun q => (x.fresh b q).elim n fun z => by rw [e] at z; cases z) m
  frm := fun b o e m n => by
    obtain ⟨sl, e1⟩ := x.frm b o e m n
    obtain ⟨sl', e2⟩ := y.frm b _ e1 m n
    exact ⟨sl', e2⟩
  liv := fun b o e m => by
    obtain ⟨o', e1⟩ := x.liv b o e m
    exact y.liv b _ e1 m
  grow := fun b z => y.grow b (x.grow b z)
  fresh := fun b z => by
    by_cases q : O₁ b
    · exact .inl q
    · refine .inr ?_
      rcases y.fresh b z with z | z
      · exact (x.fresh b z).elim (fun w => absurd w q) id
      · cases e : s₁.heap.get? b with
        | none => rfl
        | some o =>
          by_cases m : b ∈ fs
          · obtain ⟨sl, e1⟩ := x.liv b o e m
            rw [e1] at z; cases z
          · rw [x.keep b o e q m] at z; cases z
  gens := y.gens.trans x.gens
  drawn := y.drawn.trans x.drawn
  os := y.os.trans x.os
theorem SStp.kp {X fs zs : List Addr} {O O' : Nat → Prop} {s s' : Shared} (x : SStp X fs O O' s s') (hs : ∀ b ∈ fs, b ∈ zs) : Kp (fun b => O b ∨ b ∈ zs) s.heap s'.heap := fun b o e n => x.keep b o e (fun q => n (.inl q)) fun q => n (.inr (hs b q))
theorem SStp.zg {X fs zs : List Addr} {O O' : Nat → Prop} {s s' : Shared} (x : SStp X fs O O' s s') : Zg (fun b => O b ∨ b ∈ zs) (fun b => O' b ∨ b ∈ zs) s.heap := fun b q => by
  rcases q with q | q
  · exact (x.fresh b q).imp .inl id
  · exact .inl (.inr q)
theorem SStp.vr {C : Cx} {X : List Addr} {envs : Vo} {σ σ' : St} {ow ow' : Nat → Option Nat} {s s' : Shared} (x : SStp X envs.fs (Own σ ow) (Own σ' ow') s s') {v : AV} {u : Value} (r : VR C (Zs σ ow (zss envs)) s.heap v u) : VR C (Zs σ' ow' (zss envs)) s'.heap v u := r.kp (x.kp envs.sub) x.zg
theorem SStp.vrs {C : Cx} {X : List Addr} {envs : Vo} {σ σ' : St} {ow ow' : Nat → Option Nat} {s s' : Shared} (x : SStp X envs.fs (Own σ ow) (Own σ' ow') s s') {v : List AV} {u : List Value} (r : VRs C (Zs σ ow (zss envs)) s.heap v u) : VRs C (Zs σ' ow' (zss envs)) s'.heap v u := r.kp (x.kp envs.sub) x.zg
theorem SStp.back {X fs : List Addr} {C : Cx} {σ σ' : St} {ow ow' : Nat → Option Nat} {s s' : Shared} (x : SStp X fs (Own σ ow) (Own σ' ow') s s') {envs : Vo} (g' : Good C envs σ' ow' s') (b : Addr) (n : s'.heap.get? b = Option.none) : s.heap.get? b = Option.none := by
  cases e : s.heap.get? b with
  | none => rfl
  | some o =>
    exfalso
    by_cases q : Own σ ow b
    · obtain ⟨ob, z⟩ := g'.live (x.grow b q)
      rw [n] at z; cases z
    · by_cases m : b ∈ fs
      · obtain ⟨o', z⟩ := x.liv b o e m
        rw [n] at z; cases z
      · rw [x.keep b o e q m] at n; cases n
theorem HOk.sstp {A : Around} {q : Bool} {X : List Addr} {envs : Vo} {σ σ' : St} {ow ow' : Nat → Option Nat} {s s' : Shared} (x : SStp X envs.fs (Own σ ow) (Own σ' ow') s s') (h : HOk A q (Zs σ ow (zss envs)) s.heap) : HOk A q (Zs σ' ow' (zss envs)) s'.heap := by
  rcases h with h | ⟨hq, e, o, vs, h1, h2, h3, h4, h5⟩
  · exact .inl h
  · exact .inr ⟨hq, e, o, vs, h1, x.kp envs.sub _ _ h2 h5, h3, h4, x.zg.not h2 h5⟩
structure FEnv (env : Env) (nms : List Str) (envs : Vo) (outer : List Env) : Prop where
  l : envs.l = env :: outer
  kind : env.scope.kind = .function
  frame : env.frame = some env.locals
  inF : env.locals ∈ envs.fs
  cel : ∀ x c, env.cells.lookup x = some c → c ∈ envs.fs ∧ c ≠ env.locals
  apart : ∀ x y c, env.cells.lookup x = some c → env.cells.lookup y = some c → x = y
  nodup : nms.Nodup
  kinds : ∀ x ∈ nms, env.kindOf x = some .local ∨ env.kindOf x = some .cell ∧ ∃ c, env.cells.lookup x = some c
noncomputable abbrev dL (env : Env) : List Addr := env.locals :: env.cells.map (·.2)
structure SOk (C : Cx) (A : Around) (q : Bool) (env : Env) (envs : Vo) (nms : List Str) (ρ : Loc) (σ : St) (ow : Nat → Option Nat) (s : Shared) : Prop where
  ok : Ok C A q env envs nms ρ σ ow s
  ns : ∃ m, s.heap.Ns env.locals m
  cells : ∀ x c, env.cells.lookup x = some c → ∃ v, s.heap.IsCell c v
inductive RF (C : Cx) (Z : Nat → Prop) (h : Heap) : Fl → Flow → Prop
  | next : RF C Z h .next .next
  | ret {v : AV} {u : Value} (r : VR C Z h v u) : RF C Z h (.ret v) (.ret u)
noncomputable def KS (C : Cx) (A : Around) (q : Bool) (env : Env) (envs : Vo) (nms : List Str) (σ : St) (ow : Nat → Option Nat) (s : Shared) (Qa : QS) (Q : Flow → Shared → Prop) : Prop :=
  ∀ fl af ρ' σ' ow' s', Qa af ρ' σ' → SStp (dL env) envs.fs (Own σ ow) (Own σ' ow') s s' → SOk C A q env envs nms ρ' σ' ow' s' → RF C (Zs σ' ow' (zss envs)) s'.heap af fl → Q fl s'
noncomputable def KXS (C : Cx) (A : Around) (q : Bool) (env : Env) (envs : Vo) (nms : List Str) (σ : St) (ow : Nat → Option Nat) (s : Shared) (Ea : ES) (E : Value → Shared → Prop) : Prop :=
  ∀ e c ρ' σ' ow' s', Ea c ρ' σ' → SStp (dL env) envs.fs (Own σ ow) (Own σ' ow') s s' → SOk C A q env envs nms ρ' σ' ow' s' → zD C env.locals (Zs σ' ow' (zss envs)) s.heap e c s'.heap → E (.ref e) s'
noncomputable def AO (C : Cx) (A : Around) (q : Bool) (env : Env) (envs : Vo) (nms : List Str) (t : Sem Flow) (W : Loc → St → QS → ES → Prop) : Prop :=
  ∀ ρ σ ow s Qa Ea Q E, W ρ σ Qa Ea → SOk C A q env envs nms ρ σ ow s → KS C A q env envs nms σ ow s Qa Q → KXS C A q env envs nms σ ow s Ea E → wpAny (model C.prog C.w) A t Q E s
section
variable {C : Cx} {A : Around} {q : Bool} {env : Env} {envs : Vo} {nms : List Str} {ρ : Loc} {σ σ' : St} {ow ow' : Nat → Option Nat} {s s' : Shared} {outer : List Env}
theorem KS.stp {Qa : QS} {Q : Flow → Shared → Prop} (x : SStp (dL env) envs.fs (Own σ ow) (Own σ' ow') s s') (k : KS C A q env envs nms σ ow s Qa Q) : KS C A q env envs nms σ' ow' s' Qa Q :=
  fun fl af ρ' σ'' ow'' s'' a y g r => k fl af ρ' σ'' ow'' s'' a (x.trans y) g r
theorem KXS.stp {Ea : ES} {E : Value → Shared → Prop} (x : SStp (dL env) envs.fs (Own σ ow) (Own σ' ow') s s') (g : Good C envs σ' ow' s') (k : KXS C A q env envs nms σ ow s Ea E) : KXS C A q env envs nms σ' ow' s' Ea E :=
  fun e c ρ' σ'' ow'' s'' a y g' t => k e c ρ' σ'' ow'' s'' a (x.trans y) g' (ThrA.up (x.back g) t)
theorem SOk.stp (F : FEnv env nms envs outer) (k : SOk C A q env envs nms ρ σ ow s) (x : Stp (frs envs) (Own σ ow) (Own σ' ow') s s') (g : Good C envs σ' ow' s') : SOk C A q env envs nms ρ σ' ow' s' where
  ok := k.ok.stp x g
  ns := k.ns.imp fun m h => Ns.slots (x.up (fun q => k.ok.good.off _ (envs.sub _ F.inF) q)) h
  cells := fun y c hc => by
    obtain ⟨v, o, e, d⟩ := k.cells y c hc
    obtain ⟨sl, e'⟩ := x.up (fun q => k.ok.good.off _ (envs.sub _ (F.cel y c hc).1) q) o e
    exact ⟨v, _, e', d⟩
theorem KXS.toE (F : FEnv env nms envs outer) (k : SOk C A q env envs nms ρ σ ow s) {Ea : ES} {E : Value → Shared → Prop} (kx : KXS C A q env envs nms σ ow s Ea E) : KX C envs σ ow s (fun c σ' => Ea c ρ σ') E :=
  fun e c σ' ow' s' a x g t => kx e c ρ σ' ow' s' a x.toS (k.stp F x g) (t.mono (fun _ z => .inl z) fun _ z => z)
theorem Good.touch {h' : Heap} {d : Addr} (G : Good C envs σ ow s) (hd : d ∈ envs.fs) (k : ∀ b ob, b ≠ d → s.heap.get? b = some ob → h'.get? b = some ob) (kl : ∃ o, h'.get? d = some o ∧ ∀ vs, o.data ≠ .fields vs) (t : Nat) : Good C envs σ ow { s with heap := h', toks := t } := by
  have hO : ¬ Own σ ow d := G.off d (envs.sub _ hd)
  have hK : Kp (Zs σ ow (zss envs)) s.heap h' := fun b ob e n => k b ob (fun q => n (.inr (envs.sub _ (q ▸ hd)))) e
  have hE : ∀ b, (s.heap.get? b).isSome = true → b ≠ d → h'.get? b = s.heap.get? b := fun b hl nd => by
    obtain ⟨ob, e⟩ := Option.isSome_iff_exists.mp hl
    rw [e]; exact k b ob nd e
  refine ⟨fun b ob e => ?_, ?_, G.apart, fun b m => ?_, G.sub, fun b o' e => ?_, fun b c e => ?_, G.fresh, G.off, G.gens⟩
  · exact k b ob (fun q => by subst q; rw [(G.mem _ (envs.sub _ hd)).1] at e; cases e) (G.stays b ob e)
  · have : ∀ l : List Env, s.heap.FunFrames C.base l → h'.FunFrames C.base l := by
      intro l
      induction l with
      | nil => intro _; trivial
      | cons env r ih =>
        rintro ⟨hk, ⟨L, ob, hf, hb, ho, hdt⟩, hr⟩
        by_cases q : L = d
        · subst q
          obtain ⟨o', e1, e2⟩ := kl
          exact ⟨hk, ⟨_, o', hf, hb, e1, e2⟩, ih hr⟩
        · exact ⟨hk, ⟨L, ob, hf, hb, k L ob q ho, hdt⟩, ih hr⟩
    exact this envs.l G.frames
  · obtain ⟨x, ob, e⟩ := G.mem b m
    by_cases q : b = d
    · subst q
      obtain ⟨o', e1, _⟩ := kl
      exact ⟨x, o', e1⟩
    · exact ⟨x, ob, k b ob q e⟩
  · have nb : b ≠ d := fun z => hO (z ▸ .inl (by rw [e]; rfl))
    exact (G.store b o' e).kp hK (Zg.refl _ _) (hE b (G.store b o' e).live nb) fun dx hdx => ⟨hE dx (G.parts _ _ hdx).2.2 (fun z => hO (z ▸ .inr (by rw [hdx]; rfl))), hdx⟩
  · obtain ⟨x1, x2, x3⟩ := G.parts b c e
    refine ⟨x1, x2, ?_⟩
    show (h'.get? b).isSome = true
    rw [hE b x3 (fun z => hO (z ▸ .inr (by rw [e]; rfl)))]; exact x3
theorem SStp.touch {h' : Heap} {d : Addr} {t : Nat} {X fs : List Addr} (O : Nat → Prop) (hx : d ∈ X) (hd : d ∈ fs) (k : ∀ b ob, b ≠ d → s.heap.get? b = some ob → h'.get? b = some ob) (kl : ∃ o, h'.get? d = some o) : SStp X fs O O s { s with heap := h', toks := t } where
  keep := fun b o e _ m => k b o (fun q => m (q ▸ hd)) e
  frm := fun b o e _ n => ⟨o.slots, k b o (fun q => n (q ▸ hx)) e⟩
  liv := fun b o e _ => by
    by_cases q : b = d
    · subst q; exact kl
    · exact ⟨o, k b o q e⟩
  grow := fun _ x => x
  fresh := fun _ x => .inl x
  gens := rfl
  drawn := rfl
  os := rfl
theorem iw {ρ : Loc} {i j : Nat} {v w : AV} (h : gz (setL ρ i v) j = some w) : j = i ∧ w = v ∨ j ≠ i ∧ gz ρ j = some w := by
  unfold gz setL at *
  rw [List.getD_eq_getElem?_getD] at h ⊢
  by_cases q : j = i
  · subst q
    left
    rw [List.getElem?_set] at h
    simp only [if_true] at h
    split at h
    · simp at h; exact ⟨rfl, h.symm⟩
    · simp at h
  · right
    rw [List.getElem?_set_ne (Ne.symm q)] at h
    exact ⟨q, h⟩
theorem dC (F : FEnv env nms envs outer) {i : Nat} {x : Str} {v : AV} {u : Value} {Q : Unit → Shared → Prop} {E : Value → Shared → Prop} (hx : nms[i]? = some x) (k : SOk C A q env envs nms ρ σ ow s) (r : VR C (Zs σ ow (zss envs)) s.heap v u)
    (K : ∀ s', SStp (dL env) envs.fs (Own σ ow) (Own σ ow) s s' → SOk C A q env envs nms (setL ρ i v) σ ow s' → Q () s') : wpAny (model C.prog C.w) A (storeName env x u) Q E s := by
  have hmem : x ∈ nms := List.mem_of_getElem? hx
  have other : ∀ j y, nms[j]? = some y → j ≠ i → y ≠ x := fun j y hy ne e => by
    subst e
    have h1 := List.getElem?_eq_some_iff.mp hy
    have h2 := List.getElem?_eq_some_iff.mp hx
    exact ne ((List.getElem_inj F.nodup).mp (h1.2.trans h2.2.symm))
  rcases F.kinds x hmem with hl | ⟨hl, c, hc⟩
  · obtain ⟨m, hn⟩ := k.ns
    refine wpAny_storeName_local hl hn (fun h' hn' hs => ?_) (by rw [F.kind]; rfl)
    have hk : ∀ b ob, b ≠ env.locals → s.heap.get? b = some ob → h'.get? b = some ob := fun b ob nb e => (hs.2 b nb).trans e
    have hlv : ∃ o, h'.get? env.locals = some o ∧ ∀ vs, o.data ≠ .fields vs := by
      obtain ⟨o, es, ep, ho, hd, _⟩ := hn'
      exact ⟨o, ho, fun vs q => by rw [hd] at q; cases q⟩
    have st : SStp (dL env) envs.fs (Own σ ow) (Own σ ow) s { s with heap := h', toks := s.toks + 1 } := SStp.touch _ List.mem_cons_self F.inF hk (let ⟨o, e, _⟩ := hlv; ⟨o, e⟩)
    refine K _ st ⟨⟨k.ok.good.touch F.inF hk hlv _, ⟨k.ok.loc.kind, k.ok.loc.glob, k.ok.loc.blt, k.ok.loc.offL, fun j w e => ?_⟩, k.ok.hnd.sstp st, let ⟨o, e, _⟩ := hlv; ⟨o, e⟩⟩, ⟨_, hn'⟩, fun y c hc => ?_⟩
    · rcases iw e with ⟨rfl, rfl⟩ | ⟨nj, e⟩
      · exact ⟨x, u, hx, st.vr r, .inl ⟨hl, _, hn', by simp⟩⟩
      · obtain ⟨y, val, ey, ry, ly⟩ := k.ok.loc.val j w e
        refine ⟨y, val, ey, st.vr ry, ?_⟩
        rcases ly with ⟨kd, m', hns, hm⟩ | ⟨c, kd, hc, ⟨o, eo, d⟩, hz⟩
        · refine .inl ⟨kd, _, hn', ?_⟩
          rw [if_neg (other j y ey nj)]
          obtain ⟨o1, es1, ep1, a1, a2, _, a3⟩ := hn
          obtain ⟨o2, es2, ep2, b1, b2, _, b3⟩ := hns
          rw [a1] at b1
          cases b1
          rw [a2] at b2
          cases b2
          rw [← a3, b3]; exact hm
        · exact .inr ⟨c, kd, hc, ⟨o, hk _ _ (F.cel y c hc).2 eo, d⟩, hz⟩
    · obtain ⟨v', o, eo, d⟩ := k.cells y c hc
      exact ⟨v', o, hk _ _ (F.cel y c hc).2 eo, d⟩
  · obtain ⟨v₀, hv⟩ := k.cells x c hc
    refine wpAny_storeName_cell F.kind hl hc hv fun h' hc' hs => ?_
    have hk : ∀ b ob, b ≠ c → s.heap.get? b = some ob → h'.get? b = some ob := fun b ob nb e => (hs.2 b nb).trans e
    have hlv : ∃ o, h'.get? c = some o ∧ ∀ vs, o.data ≠ .fields vs := by
      obtain ⟨o, e, d⟩ := hc'
      exact ⟨o, e, fun vs q => by rw [d] at q; cases q⟩
    have hcx : c ∈ dL env := List.mem_cons_of_mem _ (List.mem_map.mpr ⟨(x, c), mem_of_lookup hc, rfl⟩)
    obtain ⟨hh, gg, dd, tt, oo⟩ := s
    have st : SStp (dL env) envs.fs (Own σ ow) (Own σ ow) ⟨hh, gg, dd, tt, oo⟩ { heap := h', gens := gg, drawn := dd, toks := tt, os := oo } := SStp.touch _ hcx (F.cel x c hc).1 hk (let ⟨o, e, _⟩ := hlv; ⟨o, e⟩)
    have nsk : ∀ m, hh.Ns env.locals m → h'.Ns env.locals m := fun m hn => hn.at' fun o e => hk _ _ (Ne.symm (F.cel x c hc).2) e
    have lvL : ∃ o, h'.get? env.locals = some o := by
      obtain ⟨o, e⟩ := k.ok.live
      exact ⟨o, hk _ _ (Ne.symm (F.cel x c hc).2) e⟩
    refine K _ st ⟨⟨k.ok.good.touch (F.cel x c hc).1 hk hlv _, ⟨k.ok.loc.kind, k.ok.loc.glob, k.ok.loc.blt, k.ok.loc.offL, fun j w e => ?_⟩, k.ok.hnd.sstp st, lvL⟩, (let ⟨m, hn⟩ := k.ns; ⟨m, nsk m hn⟩), fun y c' hc'' => ?_⟩
    · rcases iw e with ⟨rfl, rfl⟩ | ⟨nj, e⟩
      · exact ⟨x, u, hx, st.vr r, .inr ⟨c, .inl hl, hc, hc', k.ok.good.off _ (envs.sub _ (F.cel x c hc).1)⟩⟩
      · obtain ⟨y, val, ey, ry, ly⟩ := k.ok.loc.val j w e
        refine ⟨y, val, ey, st.vr ry, ?_⟩
        rcases ly with ⟨kd, m', hns, hm⟩ | ⟨c', kd, hc'', ⟨o, eo, d⟩, hz⟩
        · exact .inl ⟨kd, m', nsk m' hns, hm⟩
        · exact .inr ⟨c', kd, hc'', ⟨o, hk _ _ (fun q => other j y ey nj (F.apart y x c (q ▸ hc'') hc)) eo, d⟩, hz⟩
    · by_cases q : c' = c
      · subst q; exact ⟨_, hc'⟩
      · obtain ⟨v', o, eo, d⟩ := k.cells y c' hc''
        exact ⟨v', o, hk _ _ q eo, d⟩
end
end Ap
end
section
namespace Ap
open PySem PySem.Calls PyProof.Rows
section
variable {C : Cx} {A : Around} {q : Bool} {env : Env} {envs : Vo} {nms : List Str} {ρ : Loc} {σ σ' : St} {ow ow' : Nat → Option Nat} {s s' : Shared} {outer : List Env}
mutual
theorem VR.xc {Z : Nat → Prop} {h h' : Heap} {fs : List Addr} {e : Addr} {t : Option (Addr × Value)} (x : Xc fs e t h h') (hz : ∀ b ∈ fs, Z b) {a : AV} {v : Value} (r : VR C Z h a v) : VR C Z h' a v := by
  cases r with
  | none => exact .none
  | bool b => exact .bool b
  | int i t => exact .int i t
  | str s t ok => exact .str s t ok
  | tup at_ off r =>
    obtain ⟨z, n, e⟩ := at_
    exact .tup ⟨z, n, x.keep _ _ e (fun m => off (hz _ m)) (.inr fun vs q => by cases q)⟩ off (VRs.xc x hz r)
  | ilist at_ off r =>
    obtain ⟨z, n, e⟩ := at_
    exact .ilist ⟨z, n, x.keep _ _ e (fun m => off (hz _ m)) (.inr fun vs q => by cases q)⟩ off (VRs.xc x hz r)
  | obj a => exact .obj a
  | exn at_ cls dt dn cx off =>
    obtain ⟨o', vs', y1, y2, y3, y4, _⟩ := x.fld _ _ _ at_ dt
    exact .exn y1 (y2.trans cls) y4 (y3.trans dn) cx off
theorem VRs.xc {Z : Nat → Prop} {h h' : Heap} {fs : List Addr} {e : Addr} {t : Option (Addr × Value)} (x : Xc fs e t h h') (hz : ∀ b ∈ fs, Z b) {a : List AV} {v : List Value} (r : VRs C Z h a v) : VRs C Z h' a v := by
  cases r with
  | nil => exact .nil
  | cons hd tl => exact .cons (VR.xc x hz hd) (VRs.xc x hz tl)
end
theorem ORep.xc {Z : Nat → Prop} {h h' : Heap} {fs : List Addr} {e : Addr} {t : Option (Addr × Value)} (x : Xc fs e t h h') (hz : ∀ b ∈ fs, Z b) {a : Addr} (ka : ∀ o, h.get? a = some o → h'.get? a = some o)
    (kd : ∀ dx, ow dx = some a → ∀ o, h.get? dx = some o → h'.get? dx = some o) {o : AObj} (r : ORep C Z ow h a o) : ORep C Z ow h' a o := by
  cases o with
  | list xs =>
    obtain ⟨vs, ⟨z, n, e⟩, r⟩ := r
    exact ⟨vs, ⟨z, n, ka _ e⟩, r.xc x hz⟩
  | dictI es =>
    obtain ⟨kvs, ⟨o, e1, ep, e, r⟩, z, y, w⟩ := r
    exact ⟨kvs, ⟨o, e1, ep, ka _ e, r⟩, z, y, w.xc x hz⟩
  | dictS es =>
    obtain ⟨kvs, ⟨o, e1, ep, e, r⟩, z, y, w⟩ := r
    exact ⟨kvs, ⟨o, e1, ep, ka _ e, r⟩, z, y, w.xc x hz⟩
  | inst c fs =>
    obtain ⟨o, dx, mA, e1, e2, e3, e4, e5, e6, e7, e8, r⟩ := r
    refine ⟨o, dx, mA, ka _ e1, e2, e3, e4, e5, e6, e7.at (fun o e => kd dx e6 o e), e8, fun f v y => ?_, r.2⟩
    obtain ⟨u, y1, y2⟩ := r.1 f v y
    exact ⟨u, y1, y2.xc x hz⟩
structure XOk (C : Cx) (envs : Vo) (σ : St) (ow : Nat → Option Nat) (fs : List Addr) (e : Addr) (t : Option (Addr × Value)) : Prop where
  sub : ∀ b ∈ fs, b ∈ envs.fs
  ne : ¬ Zs σ ow (zss envs) e ∧ C.base.get? e = Option.none
  nT : ∀ T fl, t = some (T, fl) → ¬ Zs σ ow (zss envs) T ∧ C.base.get? T = Option.none
theorem XOk.out {fs : List Addr} {e : Addr} {t : Option (Addr × Value)} (k : XOk C envs σ ow fs e t) {b : Addr} (hb : Zs σ ow (zss envs) b ∨ ∃ o, C.base.get? b = some o) : b ≠ e ∧ ∀ fl, t ≠ some (b, fl) := by
  refine ⟨fun q => ?_, fun fl q => ?_⟩
  · subst q
    rcases hb with hb | ⟨o, hb⟩
    · exact k.ne.1 hb
    · rw [k.ne.2] at hb; cases hb
  · rcases hb with hb | ⟨o, hb⟩
    · exact (k.nT b fl q).1 hb
    · rw [(k.nT b fl q).2] at hb; cases hb
theorem Good.xc {fs : List Addr} {e : Addr} {t : Option (Addr × Value)} {h' : Heap} (G : Good C envs σ ow s) (x : Xc fs e t s.heap h') (k : XOk C envs σ ow fs e t) : Good C envs σ ow { s with heap := h' } := by
  have hz : ∀ b ∈ fs, Zs σ ow (zss envs) b := fun b m => .inr (envs.sub _ (k.sub b m))
  have own : ∀ b, Own σ ow b → ∀ o, s.heap.get? b = some o → h'.get? b = some o := fun b ob o eb => x.keep b o eb (fun m => G.off b (envs.sub _ (k.sub b m)) ob) (.inl (k.out (.inl (.inl ob))))
  refine ⟨fun b o eb => ?_, G.frames.of_keeps fun b o eb nd => ?_, G.apart, fun b m => ?_, G.sub, fun b o' eb => ?_, fun b c eb => ?_, G.fresh, G.off, G.gens⟩
  · exact x.keep b o (G.stays b o eb) (fun m => by rw [(G.mem b (envs.sub _ (k.sub b m))).1] at eb; cases eb) (.inl (k.out (.inr ⟨o, eb⟩)))
  · obtain ⟨sl, z⟩ := x.frm b o eb nd
    exact ⟨_, z, rfl⟩
  · obtain ⟨y, o, eb⟩ := G.mem b m
    exact ⟨y, x.live eb⟩
  · exact (G.store b o' eb).xc x hz (own b (.inl (by rw [eb]; rfl))) fun dx hd => own dx (.inr (by rw [hd]; rfl))
  · obtain ⟨x1, x2, x3⟩ := G.parts b c eb
    obtain ⟨od, ed⟩ := Option.isSome_iff_exists.mp x3
    refine ⟨x1, x2, ?_⟩
    show (h'.get? b).isSome = true
    rw [own b (.inr (by rw [eb]; rfl)) od ed]; rfl
theorem SOk.xc (F : FEnv env nms envs outer) {fs : List Addr} {e : Addr} {t : Option (Addr × Value)} {h' : Heap} (K : SOk C A q env envs nms ρ σ ow s) (x : Xc fs e t s.heap h') (k : XOk C envs σ ow fs e t) : SOk C A q env envs nms ρ σ ow { s with heap := h' } := by
  have hz : ∀ b ∈ fs, Zs σ ow (zss envs) b := fun b m => .inr (envs.sub _ (k.sub b m))
  have nsk : ∀ m, s.heap.Ns env.locals m → h'.Ns env.locals m := fun m hn => by
    obtain ⟨o, es, ep, ho, hd, r⟩ := hn
    obtain ⟨sl, z⟩ := x.frm _ o ho fun vs q => by rw [hd] at q; cases q
    exact ⟨_, es, ep, z, hd, r⟩
  have ck : ∀ c v, s.heap.IsCell c v → h'.IsCell c v := fun c v hc => by
    obtain ⟨o, ho, hd⟩ := hc
    obtain ⟨sl, z⟩ := x.frm _ o ho fun vs q => by rw [hd] at q; cases q
    exact ⟨_, z, hd⟩
  refine ⟨⟨K.ok.good.xc x k, ⟨K.ok.loc.kind, K.ok.loc.glob, K.ok.loc.blt, K.ok.loc.offL, fun j w ej => ?_⟩, ?_, ?_⟩, ?_, fun y c hc => ?_⟩
  · obtain ⟨y, val, ey, ry, ly⟩ := K.ok.loc.val j w ej
    refine ⟨y, val, ey, VR.xc x hz ry, ?_⟩
    rcases ly with ⟨kd, m', hns, hm⟩ | ⟨c, kd, hc, hv, hz'⟩
    · exact .inl ⟨kd, m', nsk m' hns, hm⟩
    · exact .inr ⟨c, kd, hc, ck _ _ hv, hz'⟩
  · rcases K.ok.hnd with h | ⟨hq, e', o, vs, h1, h2, h3, h4, h5⟩
    · exact .inl h
    · obtain ⟨o', vs', y1, y2, y3, y4, y5⟩ := x.fld _ _ _ h2 h3
      exact .inr ⟨hq, e', o', vs', h1, y1, y4, y5.trans h4, h5⟩
  · obtain ⟨o, eo⟩ := K.ok.live
    exact x.live eo
  · obtain ⟨m, hn⟩ := K.ns
    exact ⟨m, nsk m hn⟩
  · obtain ⟨v, hv⟩ := K.cells y c hc
    exact ⟨v, ck c v hv⟩
theorem SStp.xc {X fs : List Addr} {e : Addr} {t : Option (Addr × Value)} {h' : Heap} (st : SStp X envs.fs (Own σ ow) (Own σ' ow') s s') (G : Good C envs σ' ow' s') (x : Xc fs e t s'.heap h') (k : XOk C envs σ' ow' fs e t)
    (n0 : s.heap.get? e = Option.none) (nT : ∀ T fl, t = some (T, fl) → s.heap.get? T = Option.none) (hf : ∀ b ∈ fs, ∀ o, s'.heap.get? b = some o → ∀ vs, o.data ≠ .fields vs) : SStp X envs.fs (Own σ ow) (Own σ' ow') s { s' with heap := h' } := by
  have out : ∀ b o, s.heap.get? b = some o → b ≠ e ∧ ∀ fl, t ≠ some (b, fl) := fun b o eb => ⟨fun q => (by subst q; rw [n0] at eb; cases eb), fun fl q => (by rw [nT b fl q] at eb; cases eb)⟩
  refine ⟨fun b o eb nO nf => ?_, fun b o eb m nX => ?_, fun b o eb m => ?_, st.grow, st.fresh, st.gens, st.drawn, st.os⟩
  · exact x.keep b o (st.keep b o eb nO nf) (fun m => nf (k.sub b m)) (.inl (out b o eb))
  · obtain ⟨sl, z⟩ := st.frm b o eb m nX
    by_cases q : ∃ vs, o.data = .fields vs
    · by_cases mf : b ∈ fs
      · obtain ⟨vs, d⟩ := q
        exact absurd d (hf b mf _ z vs)
      · exact ⟨sl, x.keep b _ z mf (.inl (out b o eb))⟩
    · obtain ⟨sl', z'⟩ := x.frm b _ z fun vs d => q ⟨vs, d⟩
      exact ⟨sl', z'⟩
  · obtain ⟨o', z⟩ := st.liv b o eb m
    exact x.live z
theorem Good.frm (G : Good C envs σ ow s) {l : List Env} (e : envs.l = l) : ∀ b ∈ l.filterMap (·.frame), ∀ o, s.heap.get? b = some o → ∀ vs, o.data ≠ .fields vs := fun b m o eb vs => by
  subst e
  obtain ⟨_, o', e', d⟩ := G.frames.mem m
  rw [eb] at e'
  cases e'
  exact d vs
theorem Good.subF (G : Good C envs σ ow s) {l : List Env} (e : envs.l = l) : ∀ b ∈ l.filterMap (·.frame), b ∈ envs.fs := fun b m => by
  subst e
  obtain ⟨env, he, hf⟩ := List.mem_filterMap.mp m
  exact G.sub env he b hf
theorem nH (F : FEnv env nms envs outer) (hA : A.frames = some envs.l) {s₀ : Shared} {σ₀ : St} {ow₀ : Nat → Option Nat} {e : Addr} {c : Nat} {Q : Unit → Shared → Prop} {E : Value → Shared → Prop}
    (hb : C.base.StaysIn s₀.heap) (st : SStp (dL env) envs.fs (Own σ₀ ow₀) (Own σ ow) s₀ s) (K : SOk C A q env envs nms ρ σ ow s) (t : zD C env.locals (Zs σ ow (zss envs)) s₀.heap e c s.heap)
    (k : ∀ s' T, SStp (dL env) envs.fs (Own σ₀ ow₀) (Own σ ow) s₀ s' → SOk C A q env envs nms ρ σ ow s' → ExO s'.heap e (.ref (C.clsA c)) (some (T, rawInt env.locals)) → s₀.heap.get? T = Option.none → ¬ Zs σ ow (zss envs) T → Q () s') :
    wpAny (model C.prog C.w) A (noteFrame (.ref e) env) Q E s := by
  obtain ⟨⟨n1, n2, n3⟩, tt, x1, x2⟩ := t
  have bn : ∀ b, s₀.heap.get? b = Option.none → C.base.get? b = Option.none := fun b z => by
    cases y : C.base.get? b with
    | none => rfl
    | some o => rw [hb b o y] at z; cases z
  have xk : XOk C envs σ ow ((env :: outer).filterMap (·.frame)) e tt := ⟨K.ok.good.subF F.l, ⟨n2, bn _ n1⟩, fun T fl z => ⟨(x2 T fl z).2.2, bn _ (x2 T fl z).2.1⟩⟩
  refine vL (hA.trans (by rw [F.l])) (by have := K.ok.good.frames; rw [F.l] at this; exact this) F.frame x1 fun h' T' y1 y2 y3 => ?_
  have st' := st.xc K.ok.good y1 xk n1 (fun T fl z => (x2 T fl z).2.1) (K.ok.good.frm F.l)
  refine k _ T' st' (K.xc F y1 xk) y2 ?_ ?_
  · rcases y3 with y3 | ⟨fl, y3⟩
    · exact st.back K.ok.good T' y3
    · exact (x2 T' fl y3).2.1
  · rcases y3 with y3 | ⟨fl, y3⟩
    · rintro (z | z)
      · obtain ⟨o, w⟩ := K.ok.good.live z
        rw [y3] at w; cases w
      · obtain ⟨_, o, w⟩ := K.ok.good.mem _ z
        rw [y3] at w; cases w
    · exact (x2 T' fl y3).2.2
theorem dB (F : FEnv env nms envs outer) {s₀ : Shared} {σ₀ : St} {ow₀ : Nat → Option Nat} {e T : Addr} {c : Nat} {fl : Value} {f : Option Addr} {Q : Unit → Shared → Prop} {E : Value → Shared → Prop}
    (hb : C.base.StaysIn s₀.heap) (st : SStp (dL env) envs.fs (Own σ₀ ow₀) (Own σ ow) s₀ s) (K : SOk C A q env envs nms ρ σ ow s) (n : s₀.heap.get? e = Option.none ∧ ¬ Zs σ ow (zss envs) e) (x : ExO s.heap e (.ref (C.clsA c)) (some (T, fl)))
    (nT : s₀.heap.get? T = Option.none) (nZ : ¬ Zs σ ow (zss envs) T)
    (k : ∀ s', SStp (dL env) envs.fs (Own σ₀ ow₀) (Own σ ow) s₀ s' → SOk C A q env envs nms ρ σ ow s' → ExO s'.heap e (.ref (C.clsA c)) (some (T, f.elim .none fun f => rawInt f)) → Q () s') :
    wpAny (model C.prog C.w) A (setFlight (.ref e) f) Q E s := by
  have bn : ∀ b, s₀.heap.get? b = Option.none → C.base.get? b = Option.none := fun b z => by
    cases y : C.base.get? b with
    | none => rfl
    | some o => rw [hb b o y] at z; cases z
  have xk : XOk C envs σ ow [] e (some (T, fl)) := ⟨fun b m => absurd m (by simp), ⟨n.2, bn _ n.1⟩, fun T' fl' z => by cases z; exact ⟨nZ, bn _ nT⟩⟩
  refine rP x fun h' y1 y2 => ?_
  exact k _ (st.xc K.ok.good y1 xk n.1 (fun T' fl' z => by cases z; exact nT) fun b m => absurd m (by simp)) (K.xc F y1 xk) y2
theorem oL (F : FEnv env nms envs outer) (hA : A.frames = some envs.l) {s₀ : Shared} {σ₀ : St} {ow₀ : Nat → Option Nat} {e : Addr} {c : Nat} {Ea : ES} {E : Value → Shared → Prop}
    (hb : C.base.StaysIn s₀.heap) (st : SStp (dL env) envs.fs (Own σ₀ ow₀) (Own σ ow) s₀ s) (K : SOk C A q env envs nms ρ σ ow s) (t : zD C env.locals (Zs σ ow (zss envs)) s₀.heap e c s.heap) (a : Ea c ρ σ)
    (kx : KXS C A q env envs nms σ₀ ow₀ s₀ Ea E) : notedBy (model C.prog C.w) A env (cameBackBy (model C.prog C.w) A env E) (.ref e) s := by
  have t0 := t.1
  refine nH F hA hb st K t fun s' T st' K' x nT nZ => ?_
  unfold cameBackBy
  obtain ⟨oe, vs, a0, x1, x2, x3, x4, x5, x6, x7, x8⟩ := id x
  refine wpAny_bind (wpAny_field x1 x4 x7 ?_)
  rw [if_neg (by simp)]
  refine dB F hb st' K' ⟨t0.1, t0.2.1⟩ x nT nZ fun s'' st'' K'' x' => ?_
  rw [F.frame] at x'
  exact kx e c ρ σ ow s'' a st'' K'' ⟨t0, _, x', fun T' fl' z => by cases z; exact ⟨.inr rfl, nT, nZ⟩⟩
end
end Ap
end
section
namespace Ap
open PySem PySem.Calls PyProof.Rows
section
variable {prog : Program} {w : World} {A : Around} {E : Value → Shared → Prop} {s : Shared}
theorem oc : entryFor table "proto.unchain" = some Builtin.«proto.unchain» := entryFor_of_fast (by kernel_rfl)
noncomputable def zy (A : Around) (h : Heap) : Prop := A.handled = Option.none ∨ ∃ e o vs, A.handled = some (.ref e) ∧ h.get? e = some o ∧ o.data = .fields vs ∧ vs[2]? = some .none
theorem oW {α : Type} {a : Addr} {o : Obj} {vs : Array Value} {Q : α → Shared → Prop} (hh : zy A s.heap) (ho : s.heap.get? a = some o) (hd : o.data = .fields vs) (h2 : 2 < vs.size)
    (h : ∀ h' vs', h'.get? a = some { o with data := .fields vs' } → (∀ b, b ≠ a → h'.get? b = s.heap.get? b) → E (.ref a) { s with heap := h' }) : wpAny (model prog w) A (raiseNew (.ref a) : Sem α) Q E s := by
  unfold raiseNew
  refine wpAny_bind (wpAny_handled ?_)
  rcases hh with hh | ⟨e, oe, es, hh, he, hde, h0⟩
  · rw [hh]
    exact wpAny_bind (wpAny_pure (wpAny_throw (h s.heap vs (by rw [ho, ← hd]) fun _ _ => rfl)))
  · rw [hh]
    by_cases q : (Value.ref e != Value.ref a) = true
    · show wpAny _ _ (if (Value.ref e != Value.ref a) = true then _ else _) _ _ _
      rw [if_pos q]
      refine wpAny_bind ((wpAny_holding (wpAny_runValue (codeAny_builtin oc ?_))))
      unfold Builtin.«proto.unchain»
      refine wpAny_bind (wpAny_field he hde h0 ?_)
      rw [if_pos (show (Value.none == Value.none) = true from by decide)]
      refine wpAny_bind (wpAny_pure ?_)
      refine wpAny_pure ?_
      show wpAny _ _ (setField (.ref a) 2 (.ref e) >>= _) _ _ _
      refine wpAny_bind (wpAny_setField (x := .ref e) ho hd h2 ?_)
      obtain ⟨u1, u2⟩ := fV 2 (.ref e) ho hd
      exact wpAny_throw (h _ _ u1 u2)
    · show wpAny _ _ (if (Value.ref e != Value.ref a) = true then _ else _) _ _ _
      rw [if_neg q]
      exact wpAny_throw (h s.heap vs (by rw [ho, ← hd]) fun _ _ => rfl)
theorem iO {it l : Addr} {i : Nat} {items : Array Value} {Q : Option Value → Shared → Prop} (hh : zy A s.heap)
    (hit : s.heap.IsListIter it l i) (hl : s.heap.IsList l items) (hx : items[i]? = none) (hA : ∀ e, A.handled = some (.ref e) → e ≠ it)
    (hQ : ∀ h', Heap.ExtBut it s.heap h' → (∃ o, h'.get? it = some o) → Q none { s with heap := h' }) : wpAny (model prog w) A (pyNext (.ref it)) Q E s := by
  obtain ⟨o, ho, hc, hd⟩ := id hit
  obtain ⟨ol, hol, _, nl, hdl⟩ := hl
  unfold pyNext
  refine wpAny_bind (wpAny_attempt (wpAny_callSpecial?_slot (name := Str.ofString "__next__") hit.typeIs slot_listiter_next
    (wpAny_call_entry slot_listiter_next hit.typeIs entry_listiter_next ?_ (args_listiter_next _))))
  show wpAny _ _ (field (.ref it) 0 >>= _) _ _ s
  refine wpAny_bind (wpAny_field ho hd (x := .ref l) rfl ?_)
  show wpAny _ _ (if (Value.ref l == Value.none) = true then _ else _) _ _ s
  rw [if_neg (show ¬ ((Value.ref l == Value.none) = true) from Bool.false_ne_true)]
  show wpAny _ _ (field (.ref it) 1 >>= _) _ _ s
  refine wpAny_bind (wpAny_field ho hd (x := .int i 0) rfl ?_)
  show wpAny _ _ (seqItems? (.ref l) >>= _) _ _ s
  refine wpAny_bind (wpAny_seqItems hol hdl ?_)
  simp only [Int.toNat_natCast, hx]
  refine wpAny_bind (wpAny_rule (wpAny_bind (wpAny_setField ho hd (by simp) ?_)))
  show wpAny _ _ (newExc (.type "StopIteration") [] >>= _) _ _ _
  refine wpAny_bind ?_
  simp only [newExc, newTuple]
  refine wpAny_bind (wpAny_newObj_type ?_ (by size_fits))
  refine wpAny_bind (m := firstArgMember _ _) (wpAny_of_eq (a := Value.none) (by first | rfl | (simp only [firstArgMember]; rfl)) ?_)
  refine wpAny_newObj_type ?_ (by size_fits)
  refine oW ?_ (Heap.get?_push_size _ rfl) rfl (by simp only [List.size_toArray, List.length_append, List.length_cons, Array.size_append]; omega) fun h' vs' y1 y2 => ?_
  · rcases hh with hh | ⟨e, oe, es, hh, he, hde, h0⟩
    · exact .inl hh
    · refine .inr ⟨e, oe, es, hh, ?_, hde, h0⟩
      exact Heap.get?_push_of_some _ (Heap.get?_push_of_some _ ((Heap.get?_update_other _ _ (Ne.symm (hA e hh))).trans he))
  · refine wpAny_bind (wpAny_isInstance (T := "StopIteration") (b := true) ⟨_, y1, rfl⟩ isSubtype_stop ?_)
    have hself := Heap.get?_update_self (Obj.mapFields (·.setIfInBounds 0 Value.none)) ho (Obj.isFreed_of_fields (Obj.data_mapFields hd _))
    have k0 := Heap.get?_push_of_some { cls := .type "tuple", data := .seq #[] } hself
    refine wpAny_pure (hQ _ (fun b ob nb eb => ?_) ⟨_, (y2 it (Nat.ne_of_lt (Heap.lt_size k0))).trans (Heap.get?_push_of_some _ k0)⟩)
    have k1 := Heap.get?_push_of_some { cls := .type "tuple", data := .seq #[] } ((Heap.get?_update_other s.heap (Obj.mapFields (·.setIfInBounds 0 Value.none)) (Ne.symm nb)).trans eb)
    rw [y2 b (fun q => absurd (Heap.lt_size k1) (by rw [q]; exact Nat.lt_irrefl _))]
    exact Heap.get?_push_of_some _ k1
end
end Ap
end
section
set_option genSizeOf false
namespace Ap
open PySem PySem.Calls PyProof.Rows
noncomputable def Vo.plus (V : Vo) (wr : List Addr) : Vo := ⟨V.l, V.fs, wr ++ V.its⟩
section
variable {C : Cx} {A : Around} {q : Bool} {env : Env} {V : Vo} {nms : List Str} {ρ : Loc} {σ σ' : St} {ow ow' : Nat → Option Nat} {s s' : Shared} {outer : List Env} {wr : List Addr}
theorem Vo.plus_sub : ∀ b ∈ zss V, b ∈ zss (V.plus wr) := fun b h => by
  rcases List.mem_append.mp h with h | h
  · exact List.mem_append_left _ h
  · exact List.mem_append_right _ (List.mem_append_right _ h)
theorem Vo.plus_mem {b : Addr} (h : b ∈ zss (V.plus wr)) : b ∈ zss V ∨ b ∈ wr := by
  rcases List.mem_append.mp h with h | h
  · exact .inl (List.mem_append_left _ h)
  · rcases List.mem_append.mp h with h | h
    · exact .inr h
    · exact .inl (List.mem_append_right _ h)
theorem Vo.plus_wr {b : Addr} (h : b ∈ wr) : b ∈ zss (V.plus wr) := List.mem_append_right _ (List.mem_append_left _ h)
theorem dE {b : Addr} (h : Zs σ ow (zss V) b) : Zs σ ow (zss (V.plus wr)) b := h.imp id (Vo.plus_sub b)
theorem Good.open_ {h' : Heap} {t : Nat} (G : Good C V σ ow s) (gr : ∀ b o, s.heap.get? b = some o → h'.get? b = some o) (fr : ∀ b ∈ wr, s.heap.get? b = Option.none ∧ ∃ o, h'.get? b = some o) : Good C (V.plus wr) σ ow { s with heap := h', toks := t } := by
  have zg : Zg (Zs σ ow (zss V)) (Zs σ ow (zss (V.plus wr))) s.heap := fun b z => by
    rcases z with z | z
    · exact .inl (.inl z)
    · rcases Vo.plus_mem z with z | z
      · exact .inl (.inr z)
      · exact .inr (fr b z).1
  refine ⟨fun b o e => gr b o (G.stays b o e), G.frames.of_keeps fun b o e _ => ⟨o, gr b o e, rfl⟩, fun b m n => ?_, fun b m => ?_, G.sub, fun b o' e => ?_, fun b c e => ?_, G.fresh, fun L hL z => ?_, G.gens⟩
  · rcases List.mem_append.mp m with m | m
    · obtain ⟨_, o, z⟩ := G.mem b (V.sub b n)
      rw [(fr b m).1] at z; cases z
    · exact G.apart b m n
  · rcases Vo.plus_mem m with m | m
    · obtain ⟨x, o, z⟩ := G.mem b m
      exact ⟨x, o, gr b o z⟩
    · refine ⟨?_, (fr b m).2⟩
      cases z : C.base.get? b with
      | none => rfl
      | some o => have := G.stays b o z; rw [(fr b m).1] at this; cases this
  · have x := G.store b o' e
    obtain ⟨oa, ea⟩ := Option.isSome_iff_exists.mp x.live
    exact x.kp (fun b o e _ => gr b o e) zg (by rw [ea]; exact gr b oa ea) fun dx hd => by
      obtain ⟨od, ed⟩ := Option.isSome_iff_exists.mp (G.parts dx b hd).2.2
      exact ⟨by rw [ed]; exact gr dx od ed, hd⟩
  · obtain ⟨x1, x2, x3⟩ := G.parts b c e
    obtain ⟨od, ed⟩ := Option.isSome_iff_exists.mp x3
    exact ⟨x1, x2, by show (h'.get? b).isSome = true; rw [gr b od ed]; rfl⟩
  · rcases Vo.plus_mem hL with m | m
    · exact G.off L m z
    · obtain ⟨o, y⟩ := G.live z
      rw [(fr L m).1] at y; cases y
theorem Good.close_ (G : Good C (V.plus wr) σ ow s) : Good C V σ ow s := by
  have zg : ∀ h : Heap, Zg (Zs σ ow (zss (V.plus wr))) (Zs σ ow (zss V)) h := fun h b z => .inl (dE z)
  refine ⟨G.stays, G.frames, fun b m => G.apart b (List.mem_append_right _ m), fun b m => G.mem b (Vo.plus_sub b m), G.sub, fun b o' e => ?_, G.parts, G.fresh, fun L hL => G.off L (Vo.plus_sub L hL), G.gens⟩
  exact (G.store b o' e).kp (fun _ _ e _ => e) (zg _) rfl fun dx hd => ⟨rfl, hd⟩
theorem Good.its {h' : Heap} {t : Nat} (G : Good C (V.plus wr) σ ow s) (k : ∀ b o, b ∉ wr → s.heap.get? b = some o → h'.get? b = some o) (lv : ∀ b ∈ wr, ∃ o, h'.get? b = some o) : Good C (V.plus wr) σ ow { s with heap := h', toks := t } := by
  have no : ∀ b, Own σ ow b → b ∉ wr := fun b z m => G.off b (Vo.plus_wr m) z
  have hK : Kp (Zs σ ow (zss (V.plus wr))) s.heap h' := fun b o e n => k b o (fun m => n (.inr (Vo.plus_wr m))) e
  have nf : ∀ b ∈ V.fs, b ∉ wr := fun b m n => G.apart b (List.mem_append_left _ n) m
  refine ⟨fun b o e => k b o (fun m => ?_) (G.stays b o e), ?_, G.apart, fun b m => ?_, G.sub, fun b o' e => ?_, fun b c e => ?_, G.fresh, G.off, G.gens⟩
  · rw [(G.mem b (Vo.plus_wr m)).1] at e; cases e
  · have : ∀ l : List Env, (∀ L ∈ l.filterMap (·.frame), L ∉ wr) → s.heap.FunFrames C.base l → h'.FunFrames C.base l := by
      intro l
      induction l with
      | nil => intro _ _; trivial
      | cons env r ih =>
        rintro hn ⟨hk, ⟨L, ob, hf, hb, ho, hdt⟩, hr⟩
        refine ⟨hk, ⟨L, ob, hf, hb, k L ob (hn L (by simp [List.filterMap_cons, hf])) ho, hdt⟩, ih (fun L hL => hn L ?_) hr⟩
        rw [List.filterMap_cons, hf]; exact List.mem_cons_of_mem _ hL
    exact this _ (fun L hL => by
      obtain ⟨env, he, hf⟩ := List.mem_filterMap.mp hL
      exact nf L (G.sub env he L hf)) G.frames
  · obtain ⟨x, o, e⟩ := G.mem b m
    by_cases z : b ∈ wr
    · exact ⟨x, lv b z⟩
    · exact ⟨x, o, k b o z e⟩
  · have x := G.store b o' e
    obtain ⟨oa, ea⟩ := Option.isSome_iff_exists.mp x.live
    exact x.kp hK (Zg.refl _ _) (by rw [ea]; exact k b oa (no b (.inl (by rw [e]; rfl))) ea) fun dx hd => by
      obtain ⟨od, ed⟩ := Option.isSome_iff_exists.mp (G.parts dx b hd).2.2
      exact ⟨by rw [ed]; exact k dx od (no dx (.inr (by rw [hd]; rfl))) ed, hd⟩
  · obtain ⟨x1, x2, x3⟩ := G.parts b c e
    obtain ⟨od, ed⟩ := Option.isSome_iff_exists.mp x3
    exact ⟨x1, x2, by show (h'.get? b).isSome = true; rw [k b od (no b (.inr (by rw [e]; rfl))) ed]; rfl⟩
theorem FEnv.plus (F : FEnv env nms V outer) : FEnv env nms (V.plus wr) outer := ⟨F.l, F.kind, F.frame, F.inF, F.cel, F.apart, F.nodup, F.kinds⟩
theorem AOk.plus {d : Nat} (x : AOk A V d) : AOk A (V.plus wr) d := ⟨x.frames, x.depth, x.units⟩
theorem Ok.open_ {h' : Heap} {t : Nat} (k : Ok C A q env V nms ρ σ ow s) (gr : ∀ b o, s.heap.get? b = some o → h'.get? b = some o) (fr : ∀ b ∈ wr, s.heap.get? b = Option.none ∧ ∃ o, h'.get? b = some o) : Ok C A q env (V.plus wr) nms ρ σ ow { s with heap := h', toks := t } := by
  have zg : Zg (Zs σ ow (zss V)) (Zs σ ow (zss (V.plus wr))) s.heap := fun b z => by
    rcases z with z | z
    · exact .inl (.inl z)
    · rcases Vo.plus_mem z with z | z
      · exact .inl (.inr z)
      · exact .inr (fr b z).1
  refine ⟨k.good.open_ gr fr, ⟨k.loc.kind, k.loc.glob, k.loc.blt, k.loc.offL, fun j w e => ?_⟩, ?_, let ⟨o, e⟩ := k.live; ⟨o, gr _ _ e⟩⟩
  · obtain ⟨y, val, ey, ry, ly⟩ := k.loc.val j w e
    refine ⟨y, val, ey, ry.kp (fun b o e _ => gr b o e) zg, ?_⟩
    rcases ly with ⟨kd, m', hns, hm⟩ | ⟨c, kd, hc, ⟨o, eo, d⟩, hz⟩
    · exact .inl ⟨kd, m', hns.at' fun o e => gr _ _ e, hm⟩
    · exact .inr ⟨c, kd, hc, ⟨o, gr _ _ eo, d⟩, hz⟩
  · rcases k.hnd with h | ⟨hq, e, o, vs, h1, h2, h3, h4, h5⟩
    · exact .inl h
    · exact .inr ⟨hq, e, o, vs, h1, gr _ _ h2, h3, h4, zg.not h2 h5⟩
theorem SOk.open_ {h' : Heap} {t : Nat} (k : SOk C A q env V nms ρ σ ow s) (gr : ∀ b o, s.heap.get? b = some o → h'.get? b = some o) (fr : ∀ b ∈ wr, s.heap.get? b = Option.none ∧ ∃ o, h'.get? b = some o) : SOk C A q env (V.plus wr) nms ρ σ ow { s with heap := h', toks := t } :=
  ⟨k.ok.open_ gr fr, let ⟨m, h⟩ := k.ns; ⟨m, h.at' fun o e => gr _ _ e⟩, fun y c hc => let ⟨v, o, e, d⟩ := k.cells y c hc; ⟨v, o, gr _ _ e, d⟩⟩
theorem Ok.close_ (k : Ok C A q env (V.plus wr) nms ρ σ ow s) : Ok C A q env V nms ρ σ ow s := by
  refine ⟨k.good.close_, ⟨k.loc.kind, k.loc.glob, k.loc.blt, k.loc.offL, fun j w e => ?_⟩, ?_, k.live⟩
  · obtain ⟨y, val, ey, ry, ly⟩ := k.loc.val j w e
    exact ⟨y, val, ey, ry.kp (fun _ _ e _ => e) fun b z => .inl (dE z), ly⟩
  · rcases k.hnd with h | ⟨hq, e, o, vs, h1, h2, h3, h4, h5⟩
    · exact .inl h
    · exact .inr ⟨hq, e, o, vs, h1, h2, h3, h4, fun z => h5 (dE z)⟩
theorem SOk.close_ (k : SOk C A q env (V.plus wr) nms ρ σ ow s) : SOk C A q env V nms ρ σ ow s := ⟨k.ok.close_, k.ns, k.cells⟩
theorem SOk.its (F : FEnv env nms V outer) {h' : Heap} {t : Nat} (K : SOk C A q env (V.plus wr) nms ρ σ ow s) (k : ∀ b o, b ∉ wr → s.heap.get? b = some o → h'.get? b = some o) (lv : ∀ b ∈ wr, ∃ o, h'.get? b = some o) : SOk C A q env (V.plus wr) nms ρ σ ow { s with heap := h', toks := t } := by
  have hK : Kp (Zs σ ow (zss (V.plus wr))) s.heap h' := fun b o e n => k b o (fun m => n (.inr (Vo.plus_wr m))) e
  have nf : ∀ b ∈ V.fs, b ∉ wr := fun b m n => K.ok.good.apart b (List.mem_append_left _ n) m
  have nL := nf _ F.inF
  refine ⟨⟨K.ok.good.its k lv, ⟨K.ok.loc.kind, K.ok.loc.glob, K.ok.loc.blt, K.ok.loc.offL, fun j w e => ?_⟩, ?_, let ⟨o, e⟩ := K.ok.live; ⟨o, k _ _ nL e⟩⟩, let ⟨m, h⟩ := K.ns; ⟨m, h.at' fun o e => k _ _ nL e⟩, fun y c hc => let ⟨v, o, e, d⟩ := K.cells y c hc; ⟨v, o, k _ _ (nf _ (F.cel y c hc).1) e, d⟩⟩
  · obtain ⟨y, val, ey, ry, ly⟩ := K.ok.loc.val j w e
    refine ⟨y, val, ey, ry.kp hK (Zg.refl _ _), ?_⟩
    rcases ly with ⟨kd, m', hns, hm⟩ | ⟨c, kd, hc, ⟨o, eo, d⟩, hz⟩
    · exact .inl ⟨kd, m', hns.at' fun o e => k _ _ nL e, hm⟩
    · exact .inr ⟨c, kd, hc, ⟨o, k _ _ (nf _ (F.cel y c hc).1) eo, d⟩, hz⟩
  · rcases K.ok.hnd with h | ⟨hq, e, o, vs, h1, h2, h3, h4, h5⟩
    · exact .inl h
    · exact .inr ⟨hq, e, o, vs, h1, hK _ _ h2 h5, h3, h4, h5⟩
theorem SStp.its {X : List Addr} {O O' : Nat → Prop} {s₀ : Shared} {h' : Heap} {t : Nat} (x : SStp X V.fs O O' s₀ s) (G : ∀ b ∈ V.fs, b ∉ wr) (k : ∀ b o, b ∉ wr → s.heap.get? b = some o → h'.get? b = some o) (fr : ∀ b ∈ wr, s₀.heap.get? b = Option.none) :
    SStp X V.fs O O' s₀ { s with heap := h', toks := t } where
  keep := fun b o e n m => k b o (fun w => by rw [fr b w] at e; cases e) (x.keep b o e n m)
  frm := fun b o e m n => let ⟨sl, z⟩ := x.frm b o e m n; ⟨sl, k b _ (G b m) z⟩
  liv := fun b o e m => let ⟨o', z⟩ := x.liv b o e m; ⟨o', k b _ (G b m) z⟩
  grow := x.grow
  fresh := x.fresh
  gens := x.gens
  drawn := x.drawn
  os := x.os
theorem Good.drop {h' : Heap} {t : Nat} (G : Good C (V.plus wr) σ ow s) (nz : ∀ b ∈ wr, b ∉ V.its) (k : ∀ b o, b ∉ wr → s.heap.get? b = some o → h'.get? b = some o) : Good C V σ ow { s with heap := h', toks := t } := by
  have no : ∀ b, Own σ ow b → b ∉ wr := fun b z m => G.off b (Vo.plus_wr m) z
  have nf : ∀ b ∈ V.fs, b ∉ wr := fun b m n => G.apart b (List.mem_append_left _ n) m
  have hK : Kp (Zs σ ow (zss (V.plus wr))) s.heap h' := fun b o e n => k b o (fun m => n (.inr (Vo.plus_wr m))) e
  have zg : Zg (Zs σ ow (zss (V.plus wr))) (Zs σ ow (zss V)) s.heap := fun b z => .inl (dE z)
  have nv : ∀ b ∈ zss V, b ∉ wr := fun b m => by
    rcases List.mem_append.mp m with m | m
    · exact nf b m
    · exact fun w => nz b w m
  refine ⟨fun b o e => k b o (fun m => ?_) (G.stays b o e), ?_, fun b m => G.apart b (List.mem_append_right _ m), fun b m => ?_, G.sub, fun b o' e => ?_, fun b c e => ?_, G.fresh, fun L hL => G.off L (Vo.plus_sub L hL), G.gens⟩
  · rw [(G.mem b (Vo.plus_wr m)).1] at e; cases e
  · have : ∀ l : List Env, (∀ L ∈ l.filterMap (·.frame), L ∉ wr) → s.heap.FunFrames C.base l → h'.FunFrames C.base l := by
      intro l
      induction l with
      | nil => intro _ _; trivial
      | cons env r ih =>
        rintro hn ⟨hk, ⟨L, ob, hf, hb, ho, hdt⟩, hr⟩
        refine ⟨hk, ⟨L, ob, hf, hb, k L ob (hn L (by simp [List.filterMap_cons, hf])) ho, hdt⟩, ih (fun L hL => hn L ?_) hr⟩
        rw [List.filterMap_cons, hf]; exact List.mem_cons_of_mem _ hL
    exact this _ (fun L hL => by
      obtain ⟨env, he, hf⟩ := List.mem_filterMap.mp hL
      exact nf L (G.sub env he L hf)) G.frames
  · obtain ⟨x, o, e⟩ := G.mem b (Vo.plus_sub b m)
    exact ⟨x, o, k b o (nv b m) e⟩
  · have x := G.store b o' e
    obtain ⟨oa, ea⟩ := Option.isSome_iff_exists.mp x.live
    exact x.kp hK zg (by rw [ea]; exact k b oa (no b (.inl (by rw [e]; rfl))) ea) fun dx hd => by
      obtain ⟨od, ed⟩ := Option.isSome_iff_exists.mp (G.parts dx b hd).2.2
      exact ⟨by rw [ed]; exact k dx od (no dx (.inr (by rw [hd]; rfl))) ed, hd⟩
  · obtain ⟨x1, x2, x3⟩ := G.parts b c e
    obtain ⟨od, ed⟩ := Option.isSome_iff_exists.mp x3
    exact ⟨x1, x2, by show (h'.get? b).isSome = true; rw [k b od (no b (.inr (by rw [e]; rfl))) ed]; rfl⟩
theorem SOk.drop (F : FEnv env nms V outer) {h' : Heap} {t : Nat} (K : SOk C A q env (V.plus wr) nms ρ σ ow s) (nz : ∀ b ∈ wr, b ∉ V.its) (k : ∀ b o, b ∉ wr → s.heap.get? b = some o → h'.get? b = some o) : SOk C A q env V nms ρ σ ow { s with heap := h', toks := t } := by
  have hK : Kp (Zs σ ow (zss (V.plus wr))) s.heap h' := fun b o e n => k b o (fun m => n (.inr (Vo.plus_wr m))) e
  have zg : Zg (Zs σ ow (zss (V.plus wr))) (Zs σ ow (zss V)) s.heap := fun b z => .inl (dE z)
  have nf : ∀ b ∈ V.fs, b ∉ wr := fun b m n => K.ok.good.apart b (List.mem_append_left _ n) m
  have nL := nf _ F.inF
  refine ⟨⟨K.ok.good.drop nz k, ⟨K.ok.loc.kind, K.ok.loc.glob, K.ok.loc.blt, K.ok.loc.offL, fun j w e => ?_⟩, ?_, let ⟨o, e⟩ := K.ok.live; ⟨o, k _ _ nL e⟩⟩, let ⟨m, h⟩ := K.ns; ⟨m, h.at' fun o e => k _ _ nL e⟩, fun y c hc => let ⟨v, o, e, d⟩ := K.cells y c hc; ⟨v, o, k _ _ (nf _ (F.cel y c hc).1) e, d⟩⟩
  · obtain ⟨y, val, ey, ry, ly⟩ := K.ok.loc.val j w e
    refine ⟨y, val, ey, ry.kp hK zg, ?_⟩
    rcases ly with ⟨kd, m', hns, hm⟩ | ⟨c, kd, hc, ⟨o, eo, d⟩, hz⟩
    · exact .inl ⟨kd, m', hns.at' fun o e => k _ _ nL e, hm⟩
    · exact .inr ⟨c, kd, hc, ⟨o, k _ _ (nf _ (F.cel y c hc).1) eo, d⟩, hz⟩
  · rcases K.ok.hnd with h | ⟨hq, e, o, vs, h1, h2, h3, h4, h5⟩
    · exact .inl h
    · exact .inr ⟨hq, e, o, vs, h1, hK _ _ h2 h5, h3, h4, fun z => h5 (dE z)⟩
structure It (C : Cx) (A : Around) (q : Bool) (target : Expr) (V : Vo) (I : Addr) (wr : List Addr) (xs : List AV) (G : St → Prop) (inv : Nat → St → (Nat → Option Nat) → Shared → Prop) : Prop where
  step : ∀ X i σ ow s σ' ow' s', inv i σ ow s → Good C (V.plus wr) σ ow s → SStp X V.fs (Own σ ow) (Own σ' ow') s s' → Good C (V.plus wr) σ' ow' s' → G σ' → inv i σ' ow' s'
  next : ∀ i x σ ow s (Q : Value → Shared → Prop) E, xs[i]? = some x → inv i σ ow s → Good C (V.plus wr) σ ow s → G σ →
    (∀ v h' tk, VR C (Zs σ ow (zss (V.plus wr))) h' x v → inv (i + 1) σ ow { s with heap := h', toks := tk } → (∀ b o, b ∉ wr → s.heap.get? b = some o → h'.get? b = some o) → (∀ b ∈ wr, ∃ o, h'.get? b = some o) → Q v { s with heap := h', toks := tk }) →
    wpAny (model C.prog C.w) A (pyNext (.ref I)) (fun r s₁ => match r with | Option.none => False | some v => wpAny (model C.prog C.w) A (letOwnedTupleGo target (.ref I) v) (fun _ s₂ => Q v s₂) E s₁) E s
  done : ∀ σ ow s (Q : Option Value → Shared → Prop) E, inv xs.length σ ow s → Good C (V.plus wr) σ ow s → HOk A q (Zs σ ow (zss (V.plus wr))) s.heap → G σ →
    (∀ h' tk, (∀ b o, b ∉ wr → s.heap.get? b = some o → h'.get? b = some o) → Q Option.none { s with heap := h', toks := tk }) → wpAny (model C.prog C.w) A (pyNext (.ref I)) Q E s
  move : ∀ i σ ow s h' tk, inv i σ ow s → Good C (V.plus wr) σ ow s → (∀ b o, (b ∈ V.its → b ∈ wr) → s.heap.get? b = some o → h'.get? b = some o) → inv i σ ow { s with heap := h', toks := tk }
  self : ∀ i σ ow s (Q : Value → Shared → Prop) E, inv i σ ow s → Good C (V.plus wr) σ ow s → Q (.ref I) s → wpAny (model C.prog C.w) A (pyIter (.ref I)) Q E s
noncomputable def BindP (C : Cx) (A : Around) (q : Bool) (env : Env) (V : Vo) (nms : List Str) (target : Expr) (Bd : AV → Loc → Loc → Prop) : Prop :=
  ∀ ρ ρ' σ ow s v u (Q : Unit → Shared → Prop) E, SOk C A q env V nms ρ σ ow s → VR C (Zs σ ow (zss V)) s.heap v u → Bd v ρ ρ' →
    (∀ s', SStp (dL env) V.fs (Own σ ow) (Own σ ow) s s' → SOk C A q env V nms ρ' σ ow s' → Q () s') → wpAny (model C.prog C.w) A (assign target env u) Q E s
theorem BindP.one (F : FEnv env nms V outer) {i : Nat} {x : Str} {pos : Pos} (hx : nms[i]? = some x) : BindP C A q env V nms (.Name x pos) (fun v ρ ρ' => ρ' = setL ρ i v) :=
  fun ρ ρ' σ ow s v u Q E k r e K => by
    subst e
    exact assign_Name (dC F hx k r K)
theorem jR (F : FEnv env nms V outer) (hA : A.frames = some V.l) {target : Expr} {Bd : AV → Loc → Loc → Prop} {B : AV → Loc → St → QS → Prop} {body : List Stmt} {I : Addr} {xs : List AV} {G : St → Prop} {inv : Nat → St → (Nat → Option Nat) → Shared → Prop} {W : WS}
    (it : It C A q target V I wr xs G inv) (hB : AO C A q env (V.plus wr) nms (execs body env) W) (hT : BindP C A q env (V.plus wr) nms target Bd)
    {σ₀ : St} {ow₀ : Nat → Option Nat} {s₀ : Shared} {Qa : QS} {Ea : ES} {Q : Flow → Shared → Prop} {E : Value → Shared → Prop} (hb : C.base.StaysIn s₀.heap) (fr : ∀ b ∈ wr, s₀.heap.get? b = Option.none) (nz : ∀ b ∈ wr, b ∉ V.its)
    (ks : KS C A q env V nms σ₀ ow₀ s₀ Qa Q) (kx : KXS C A q env V nms σ₀ ow₀ s₀ Ea E)
    (hi : inv 0 σ ow s) (k : SOk C A q env (V.plus wr) nms ρ σ ow s) (st : SStp (dL env) V.fs (Own σ₀ ow₀) (Own σ ow) s₀ s)
    (hBd : ∀ v ρ σ R, B v ρ σ R → ∃ ρ', Bd v ρ ρ' ∧ W ρ' σ R Ea) (w : forL G B xs ρ σ Qa) :
    codeAny (model C.prog C.w) A (.forLoop target (.ref I) body [] env) (fun r s' => match r with | .ok f => Q f s' | .error e => cameBackBy (model C.prog C.w) A env E e s') s := by
  refine codeAny_forLoop_any (fun n s => ∃ i ρ σ ow, n = xs.length - i ∧ i ≤ xs.length ∧ inv i σ ow s ∧ SOk C A q env (V.plus wr) nms ρ σ ow s ∧ SStp (dL env) V.fs (Own σ₀ ow₀) (Own σ ow) s₀ s ∧
    forL G B (xs.drop i) ρ σ Qa) ?_ xs.length ⟨0, ρ, σ, ow, by omega, by omega, hi, k, st, by simpa using w⟩
  rintro m s ⟨i, ρ, σ, ow, hn, hle, hi, k, st, w⟩
  have nf : ∀ b ∈ V.fs, b ∉ wr := fun b m n => k.ok.good.apart b (List.mem_append_left _ n) m
  by_cases hlt : i < xs.length
  · have hd : xs.drop i = xs[i] :: xs.drop (i + 1) := List.drop_eq_getElem_cons hlt
    rw [hd] at w
    obtain ⟨hG, w⟩ := w
    · refine wpAny_mono (it.next i xs[i] σ ow s _ _ (List.getElem?_eq_getElem hlt) hi k.ok.good hG ?_) (fun r s₁ h₁ => by
        cases r with
        | none => exact False.elim h₁
        | some v => exact h₁) fun _ _ z => z
      intro v h' tk r hi' hk lv
      have k' := k.its (t := tk) F hk lv
      have st' := st.its (t := tk) nf hk fr
      obtain ⟨ρ', hbd, w⟩ := hBd _ _ _ _ w
      refine hT ρ ρ' σ ow _ _ v _ _ k' r hbd fun s₂ st₂ k₂ => ?_
      have st₂' := st'.trans st₂
      have hi₂ := it.step _ (i + 1) σ ow _ σ ow s₂ hi' k'.ok.good st₂ k₂.ok.good hG
      refine hB _ σ ow s₂ _ Ea _ _ w k₂ (fun fl af ρ₃ σ₃ ow₃ s₃ z st₃ k₃ rf => ?_) (fun e c ρ₃ σ₃ ow₃ s₃ z st₃ k₃ th => ?_)
      · cases rf with
        | next =>
          have z : forL G B (xs.drop (i + 1)) ρ₃ σ₃ Qa := z
          have hG3 : G σ₃ := by
            cases hdd : xs.drop (i + 1) with
            | nil => rw [hdd] at z; exact z.1
            | cons y ys => rw [hdd] at z; exact z.1
          exact ⟨xs.length - (i + 1), by omega, i + 1, ρ₃, σ₃, ow₃, rfl, hlt, it.step _ (i + 1) σ ow _ σ₃ ow₃ s₃ hi₂ k₂.ok.good st₃ k₃.ok.good hG3, k₃, st₂'.trans st₃, z⟩
        | ret r' => exact ks _ _ ρ₃ σ₃ ow₃ s₃ z (st₂'.trans st₃) k₃.close_ (.ret (r'.kp (fun _ _ e _ => e) fun b z => .inl (dE z)))
      · exact oL F hA hb (st₂'.trans st₃) k₃.close_ (ThrA.up (st₂'.back k₂.ok.good) (th.mono (fun _ z => z) fun _ z => dE z)) z kx
  · have he : i = xs.length := by omega
    subst he
    rw [List.drop_length] at w
    obtain ⟨hG, w⟩ := w
    refine it.done σ ow s _ _ hi k.ok.good k.ok.hnd hG fun h' tk hk => ?_
    exact wpAny_execs_nil (ks _ _ ρ σ ow _ w (st.its nf hk fr) (k.drop F nz hk) .next)
end
end Ap
end
section
namespace Ap
open PySem PySem.Calls PyProof.Rows
section
variable {C : Cx} {A : Around} {q : Bool} {env : Env} {V : Vo} {nms : List Str} {ρ : Loc} {σ σ' : St} {ow ow' : Nat → Option Nat} {s s' : Shared} {outer : List Env} {wr : List Addr}
theorem mx {target : Expr} {I l : Addr} {i : Nat} {v : Value} {Q : Unit → Shared → Prop} {E : Value → Shared → Prop} (hit : s.heap.IsListIter I l i) (hQ : Q () s) : wpAny (model C.prog C.w) A (letOwnedTupleGo target (.ref I) v) Q E s := by
  obtain ⟨o, ho, hc, hd⟩ := hit
  have key : wpAny (model C.prog C.w) A (do
      let (.ref r, .ref a) := ((.ref I : Value), v) | return
      let o ← load r
      match o.cls, o.data with
      | .type n, .fields vs =>
        if ["enumerate", "zip", "dict_itemiterator", "dict_reverseitemiterator", "odict_iterator", "itertools.zip_longest", "itertools.pairwise"].contains n && vs[0]? == some (rawInt a) then
          rule "for.unpacks-the-owned-tuple"
          updateField r 0 .none
      | _, _ => pure ()) Q E s := by
    cases v <;> first | exact wpAny_pure hQ | skip
    refine wpAny_bind (wpAny_load ho ?_)
    rw [hc, hd]
    exact wpAny_pure hQ
  unfold letOwnedTupleGo
  cases target <;> first | exact key | exact wpAny_pure hQ
theorem jS {X : List Addr} {I : Addr} {o : Obj} (G : Good C (V.plus wr) σ ow s) (hI : I ∈ wr) (x : SStp X V.fs (Own σ ow) (Own σ' ow') s s') (e : s.heap.get? I = some o) : s'.heap.get? I = some o :=
  x.keep I o e (G.off I (Vo.plus_wr hI)) (G.apart I (List.mem_append_left _ hI))
theorem HOk.low {Z : Nat → Prop} {h : Heap} (x : HOk A q Z h) : zy A h := x.imp id fun ⟨_, e, o, vs, h1, h2, h3, h4, _⟩ => ⟨e, o, vs, h1, h2, h3, h4⟩
theorem HOk.ne {Z : Nat → Prop} {h : Heap} {I : Addr} (x : HOk A q Z h) (hI : Z I) (e : Addr) (he : A.handled = some (.ref e)) : e ≠ I := by
  rcases x with x | ⟨_, e', o, vs, h1, h2, h3, h4, h5⟩
  · rw [x] at he; cases he
  · rw [h1] at he; cases he; exact fun q => h5 (q ▸ hI)
noncomputable def AQ (C : Cx) (V : Vo) (I ax : Addr) (vs : List Value) (xs : List AV) (i : Nat) (σ : St) (ow : Nat → Option Nat) (s : Shared) : Prop :=
  s.heap.IsListIter I ax i ∧ IsL s.heap ax vs ∧ VRs C (Zs σ ow (zss (V.plus [I]))) s.heap xs vs ∧ ¬ Zs σ ow (zss (V.plus [I])) ax
theorem It.ilist {target : Expr} {I ax : Addr} {vs : List Value} {xs : List AV} {G : St → Prop} : It C A q target V I [I] xs G (AQ C V I ax vs xs) where
  step := fun X i σ ow s σ' ow' s' ⟨⟨o, e1, e2, e3⟩, li, r, n⟩ g x g' _ => by
    have li' := li.kp (x.kp (zs := zss (V.plus [I])) (V.plus [I]).sub) n
    refine ⟨⟨o, jS g (by simp) x e1, e2, e3⟩, li', SStp.vrs (envs := V.plus [I]) x r, ?_⟩
    obtain ⟨_, m, e⟩ := li
    exact (x.zg (zs := zss (V.plus [I]))).not e n
  next := fun i x σ ow s Q E hx ⟨it, li, r, n⟩ g _ h => by
    obtain ⟨u, hu, ru⟩ := r.get i x hx
    obtain ⟨hh, gg, dd, tt, oo⟩ := s
    refine wpAny_pyNext_list_item it li.isList (by simpa using hu) fun h' it' hs => ?_
    have hk : ∀ b o, b ∉ [I] → hh.get? b = some o → h'.get? b = some o := fun b o nb e => (hs.2 b (by simpa using nb)).trans e
    have hK : Kp (Zs σ ow (zss (V.plus [I]))) hh h' := fun b o e nb => hk b o (fun m => nb (.inr (Vo.plus_wr m))) e
    exact mx (s := ⟨h', gg, dd, tt, oo⟩) it' (h u h' tt (ru.kp hK (Zg.refl _ _)) ⟨it', li.kp hK n, r.kp hK (Zg.refl _ _), n⟩ hk fun b m => by
      obtain ⟨o, e, _⟩ := it'
      exact ⟨o, by rw [List.mem_singleton.mp m]; exact e⟩)
  done := fun σ ow s Q E ⟨it, li, r, n⟩ g hh _ h => by
    obtain ⟨hp, gg, dd, tt, oo⟩ := s
    refine iO hh.low it li.isList (by rw [List.getElem?_toArray, List.getElem?_eq_none]; rw [r.length]; exact Nat.le_refl _) (fun e he => hh.ne (.inr (Vo.plus_wr (by simp))) e he) fun h' hx lv => ?_
    exact h h' tt (fun b o nb e => hx b o (by simpa using nb) e)
  move := fun i σ ow s h' tk ⟨⟨o, e1, e2, e3⟩, li, r, n⟩ g k => by
    have hK : Kp (Zs σ ow (zss (V.plus [I]))) s.heap h' := fun b o e nb => k b o (fun m => absurd (.inr (Vo.plus_sub b (List.mem_append_right _ m))) nb) e
    exact ⟨⟨o, k _ _ (fun _ => by simp) e1, e2, e3⟩, li.kp hK n, r.kp hK (Zg.refl _ _), n⟩
  self := fun i σ ow s Q E ⟨it, _⟩ g h => wpAny_pyIter_listiter it h
theorem It.own {target : Expr} {I a : Addr} {xs : List AV} : It C A q target V I [I] xs (fun σ => σ a = some (.list xs)) (fun i σ ow s => s.heap.IsListIter I a i) where
  step := fun X i σ ow s σ' ow' s' ⟨o, e1, e2, e3⟩ g x g' _ => ⟨o, jS g (by simp) x e1, e2, e3⟩
  next := fun i x σ ow s Q E hx it g hG h => by
    obtain ⟨vs, li, r⟩ := g.store _ _ hG
    obtain ⟨u, hu, ru⟩ := r.get i x hx
    obtain ⟨hh, gg, dd, tt, oo⟩ := s
    refine wpAny_pyNext_list_item it li.isList (by simpa using hu) fun h' it' hs => ?_
    have hk : ∀ b o, b ∉ [I] → hh.get? b = some o → h'.get? b = some o := fun b o nb e => (hs.2 b (by simpa using nb)).trans e
    have hK : Kp (Zs σ ow (zss (V.plus [I]))) hh h' := fun b o e nb => hk b o (fun m => nb (.inr (Vo.plus_wr m))) e
    exact mx (s := ⟨h', gg, dd, tt, oo⟩) it' (h u h' tt (ru.kp hK (Zg.refl _ _)) it' hk fun b m => by
      obtain ⟨o, e, _⟩ := it'
      exact ⟨o, by rw [List.mem_singleton.mp m]; exact e⟩)
  done := fun σ ow s Q E it g hh hG h => by
    obtain ⟨vs, li, r⟩ := g.store _ _ hG
    obtain ⟨hp, gg, dd, tt, oo⟩ := s
    refine iO hh.low it li.isList (by rw [List.getElem?_toArray, List.getElem?_eq_none]; rw [r.length]; exact Nat.le_refl _) (fun e he => hh.ne (.inr (Vo.plus_wr (by simp))) e he) fun h' hx lv => ?_
    exact h h' tt (fun b o nb e => hx b o (by simpa using nb) e)
  move := fun i σ ow s h' tk ⟨o, e1, e2, e3⟩ g k => ⟨o, k _ _ (fun _ => by simp) e1, e2, e3⟩
  self := fun i σ ow s Q E it g h => wpAny_pyIter_listiter it h
end
end Ap
end
section
namespace Ap
open PySem PySem.Calls PyProof.Rows
noncomputable def eh : Expr → Bool
  | .Name .. => true
  | .Attribute .. => true
  | .Subscript .. => true
  | .Constant .. => true
  | _ => false
theorem jB {o : Expr} {name : Str} {env : Env} {t : Sem Value} (h : eh o = true) : attributeBase o name env t = t := by
  cases o <;> first | rfl | exact Bool.noConfusion h
noncomputable def gl (sc : Scope) (x : Str) : Bool := sc.names.lookup x == some .globalImplicit && !(x == ("__debug__" : Str)) && !(x == ("__name__" : Str))
noncomputable def tP : Expr → Bool
  | .UnaryOp .Not .. => false
  | .BoolOp .. => false
  | .IfExp .. => false
  | .Compare .. => false
  | _ => true
noncomputable def wT (w : WE) : WBl := fun ρ σ Q E => w ρ σ (onT Q) E
structure Both (C : Cx) (d : Nat) (sc : Scope) (nms : List Str) (q : Bool) (w : WE) (x : Expr) : Prop where
  ev : ∀ A env envs ρ, env.scope = sc → AOk A envs d → Snd C A q env envs nms ρ (RV C) (eval x env) (w ρ)
  tr : ∀ A env envs ρ, env.scope = sc → AOk A envs d → Snd C A q env envs nms ρ (RB C) (isTrue x env (eval x env)) (wT w ρ)
inductive BothL (C : Cx) (d : Nat) (sc : Scope) (nms : List Str) (q : Bool) : WL → List Expr → Prop
  | nil : BothL C d sc nms q ao []
  | cons {e : WE} {x : Expr} {es : WL} {xs : List Expr} : Both C d sc nms q e x → dg x = true → BothL C d sc nms q es xs → BothL C d sc nms q (ac e es) (x :: xs)
inductive BothBl (C : Cx) (d : Nat) (sc : Scope) (nms : List Str) (q and : Bool) : WBl → List Expr → Prop
  | one {e : WE} {x : Expr} : Both C d sc nms q e x → BothBl C d sc nms q and (aX and e (cU and)) [x]
  | cons {e : WE} {x y : Expr} {r : WBl} {xs : List Expr} : Both C d sc nms q e x → BothBl C d sc nms q and r (y :: xs) → BothBl C d sc nms q and (aX and e r) (x :: y :: xs)
inductive BothC (C : Cx) (d : Nat) (sc : Scope) (nms : List Str) (q : Bool) : (AV → WBl) → List CmpOp → List Expr → Prop
  | one {f : OC} {op : CmpOp} {e : WE} {x : Expr} : CmpSnd C op f → Both C d sc nms q e x → BothC C d sc nms q (aM f e bH) [op] [x]
  | cons {f : OC} {op o' : CmpOp} {e : WE} {x y : Expr} {r : AV → WBl} {os : List CmpOp} {xs : List Expr} : CmpSnd C op f → Both C d sc nms q e x → BothC C d sc nms q r (o' :: os) (y :: xs) → BothC C d sc nms q (aM f e r) (op :: o' :: os) (x :: y :: xs)
section
variable {C : Cx} {T : Tabs} {P : Prg} {F : Calls} {d : Nat} {sc : Scope} {nms : List Str} {q : Bool}
theorem qD {x : Expr} {env : Env} {t : Sem Value} (h : tP x = true) : isTrue x env t = (do let v ← t; standAt x.pos; holding [v] (truthy v)) := by
  cases x with
  | UnaryOp op y p => cases op <;> first | rfl | exact Bool.noConfusion h
  | _ => first | rfl | exact Bool.noConfusion h
theorem pV {R : Bool → St → Prop} {v : AV} {σ : St} {Z : Nat → Prop} {h : Heap} {u : Value} (r : VR C Z h v u) (w : onT R v σ) : ∃ b, v = .bool b ∧ u = .bool b ∧ R b σ := by
  cases r <;> first | exact False.elim w | exact ⟨_, rfl, rfl, w⟩
theorem Both.of {w : WE} {x : Expr} (h : tP x = true) (ev : ∀ A env envs ρ, env.scope = sc → AOk A envs d → Snd C A q env envs nms ρ (RV C) (eval x env) (w ρ)) : Both C d sc nms q w x where
  ev := ev
  tr := fun A env envs ρ hs ha σ ow s Qa Ea Q E w ok kv kx => by
    rw [qD h]
    refine wpAny_bind (ev A env envs ρ hs ha σ ow s _ Ea _ E w ok (fun v av σ' ow' s' z st g r => ?_) kx)
    refine wpAny_bind (wpAny_standAt (wpAny_holding ?_))
    obtain ⟨b, rfl, rfl, z⟩ := pV r z
    exact wpAny_truthy_bool (kv _ _ σ' ow' s' z st g rfl)
theorem BothL.stars {es : WL} {xs : List Expr} (h : BothL C d sc nms q es xs) : xs.all dg = true := by
  induction h with
  | nil => rfl
  | cons _ h2 _ ih => rw [List.all_cons, h2, ih]; rfl
noncomputable def RLn (C : Cx) (n : Nat) (Z : Nat → Prop) (h : Heap) (av : List AV) (v : List Value) : Prop := VRs C Z h av v ∧ v.length = n
theorem BothL.snd {A : Around} {env : Env} {envs : Vo} {ρ : Loc} {pos : Pos} (hs : env.scope = sc) (ha : AOk A envs d) {es : WL} {xs : List Expr} (h : BothL C d sc nms q es xs) :
    Snd C A q env envs nms ρ (RLn C xs.length) (spliced (backTo pos (starEach xs env))) (es ρ) := by
  induction h with
  | nil => exact fun σ ow s Qa Ea Q E w ok kv kx => spliced_nil (kv _ _ σ ow s w (Stp.refl _ _ _) ok.good ⟨.nil, rfl⟩)
  | cons h1 h2 _ ih =>
    intro σ ow s Qa Ea Q E w ok kv kx
    rw [cq h2]
    refine spliced_cons (h1.ev A env envs ρ hs ha σ ow s _ Ea _ E w ok (fun v av σ' ow' s' z st g r => ?_) kx)
    refine ih σ' ow' s' _ Ea _ E z (ok.stp st g) (fun vs avs σ'' ow'' s'' z' st' g' r' => ?_) (kx.stp st g)
    exact kv _ _ σ'' ow'' s'' z' (st.trans st') g' ⟨.cons (st'.vr r) r'.1, congrArg Nat.succ r'.2⟩
variable {A : Around} {env : Env} {envs : Vo} {ρ : Loc} {pos : Pos} {σ : St} {ow : Nat → Option Nat} {s : Shared}
theorem jo {r : WBl} {ρ : Loc} {Q : Bool → St → Prop} {E : PE} {b and : Bool} {σ : St} (z : kBl and r ρ Q E b σ) : (b = and ∧ r ρ σ Q E) ∨ (b ≠ and ∧ Q b σ) := by
  cases b <;> cases and <;> first | exact .inl ⟨rfl, z⟩ | exact .inr ⟨by decide, z⟩
theorem BothBl.ev (hs : env.scope = sc) (ha : AOk A envs d) {and : Bool} {r : WBl} {xs : List Expr} (h : BothBl C d sc nms q and r xs) :
    Snd C A q env envs nms ρ (fun _ _ (b : Bool) (v : Value) => v = .bool b) (boolOp pos (if and then .And else .Or) (evalEach xs env)) (r ρ) := by
  induction h with
  | @one e x h =>
    intro σ ow s Qa Ea Q E w ok kv kx
    show wpAny _ _ (eval x env) _ _ _
    refine h.ev A env envs ρ hs ha σ ow s _ Ea _ E w ok (fun v av σ' ow' s' z st g r => ?_) kx
    obtain ⟨b, rfl, rfl, z⟩ := pV r z
    refine kv (.bool b) b σ' ow' s' ?_ st g rfl
    rcases jo z with ⟨rfl, z⟩ | ⟨_, z⟩
    · exact z
    · exact z
  | @cons e x y r xs h _ ih =>
    intro σ ow s Qa Ea Q E w ok kv kx
    show wpAny _ _ (do
      let v ← eval x env
      standAt pos
      let t ← holding [v] (truthy v)
      match (if and then BoolOp.And else .Or), t with
      | .And, false | .Or, true => pure v
      | _, _ => boolOp pos (if and then BoolOp.And else .Or) (evalEach (y :: xs) env)) _ _ _
    refine wpAny_bind (h.ev A env envs ρ hs ha σ ow s _ Ea _ E w ok (fun v av σ' ow' s' z st g r => ?_) kx)
    refine wpAny_bind (wpAny_standAt (wpAny_bind (wpAny_holding ?_)))
    obtain ⟨b, rfl, rfl, z⟩ := pV r z
    refine wpAny_truthy_bool ?_
    rcases jo z with ⟨hb, z'⟩ | ⟨hb, z'⟩
    · have R := ih σ' ow' s' Qa Ea Q E z' (ok.stp st g) (kv.stp st) (kx.stp st g)
      subst hb
      cases b <;> exact R
    · have R := kv _ _ σ' ow' s' z' st g rfl
      cases and <;> cases b <;> first | exact absurd rfl hb | exact wpAny_pure R
theorem BothBl.tr (hs : env.scope = sc) (ha : AOk A envs d) {and : Bool} {r : WBl} {xs : List Expr} (h : BothBl C d sc nms q and r xs) :
    Snd C A q env envs nms ρ (RB C) (allTrue (if and then .And else .Or) xs env) (r ρ) := by
  have step : ∀ (e : WE) (x : Expr) (xs : List Expr) (r : WBl), Both C d sc nms q e x → Snd C A q env envs nms ρ (RB C) (allTrue (if and then .And else .Or) xs env) (r ρ) → Snd C A q env envs nms ρ (RB C) (allTrue (if and then .And else .Or) (x :: xs) env) (aX and e r ρ) := by
    intro e x xs r h ih σ ow s Qa Ea Q E w ok kv kx
    show wpAny _ _ (do
      match (if and then BoolOp.And else .Or), ← isTrue x env (eval x env) with
      | .And, false => pure false
      | .Or, true => pure true
      | _, _ => PySem.allTrue (if and then BoolOp.And else .Or) xs env) _ _ _
    refine wpAny_bind (h.tr A env envs ρ hs ha σ ow s _ Ea _ E w ok (fun v b σ' ow' s' z st g r => ?_) kx)
    have r' : b = v := r
    subst r'
    rcases jo z with ⟨hb, z'⟩ | ⟨hb, z'⟩
    · have R := ih σ' ow' s' Qa Ea Q E z' (ok.stp st g) (kv.stp st) (kx.stp st g)
      subst hb
      cases b <;> exact R
    · have R := kv _ _ σ' ow' s' z' st g rfl
      cases and <;> cases b <;> first | exact absurd rfl hb | exact wpAny_pure R
  induction h with
  | one h =>
    refine step _ _ _ _ h fun σ ow s Qa Ea Q E w ok kv kx => wpAny_pure (kv _ _ σ ow s w (Stp.refl _ _ _) ok.good ?_)
    cases and <;> rfl
  | cons h _ ih => exact step _ _ _ _ h ih
theorem iW {vb : AV} {r : AV → WBl} {ρ : Loc} {Q : Bool → St → Prop} {E : PE} {σ : St} {b : Bool} (z : uF vb r ρ Q E σ b) : (b = false ∧ Q false σ) ∨ (b = true ∧ r vb ρ σ Q E) := by
  cases b
  · exact .inl ⟨rfl, z⟩
  · exact .inr ⟨rfl, z⟩
theorem BothC.ev (hs : env.scope = sc) (ha : AOk A envs d) {r : AV → WBl} {cs : List CmpOp} {xs : List Expr} (h : BothC C d sc nms q r cs xs) :
    ∀ (va : AV) (a : Value) (σ : St) (ow : Nat → Option Nat) (s : Shared) (Qa : Bool → St → Prop) (Ea : PE) (Q : Value → Shared → Prop) (E : Value → Shared → Prop), VR C (Zs σ ow (zss envs)) s.heap va a →
    r va ρ σ Qa Ea → Ok C A q env envs nms ρ σ ow s → KV C envs σ ow s (fun _ _ (b : Bool) (v : Value) => v = .bool b) Qa Q → KX C envs σ ow s Ea E →
    wpAny (model C.prog C.w) A (compareChain pos a cs (evalEach xs env)) Q E s := by
  induction h with
  | one hf h =>
    intro va a σ ow s Qa Ea Q E ra w ok kv kx
    refine chain_last (h.ev A env envs ρ hs ha σ ow s _ Ea _ E w ok (fun v av σ' ow' s' z st g r => ?_) kx)
    refine hf A envs σ' ow' s' _ _ _ _ _ _ _ ha.u64 g (st.vr ra) r z fun b t hb => kv _ b σ' ow' _ ?_ (st.tk t) (g.tk t) rfl
    rcases iW hb with ⟨rfl, z⟩ | ⟨rfl, z⟩ <;> exact z
  | cons hf h _ ih =>
    intro va a σ ow s Qa Ea Q E ra w ok kv kx
    refine chain_link (h.ev A env envs ρ hs ha σ ow s _ Ea _ E w ok (fun v av σ' ow' s' z st g r => ?_) kx)
    refine hf A envs σ' ow' s' _ _ _ _ _ _ _ ha.u64 g (st.vr ra) r z fun b t hb => ?_
    refine wpAny_truthy_bool ?_
    rcases iW hb with ⟨rfl, z⟩ | ⟨rfl, z⟩
    · exact kv _ false σ' ow' _ z (st.tk t) (g.tk t) rfl
    · exact ih _ _ σ' ow' _ Qa Ea Q E r z (ok.stp (st.tk t) (g.tk t)) (kv.stp (st.tk t)) (kx.stp (st.tk t) (g.tk t))
theorem BothC.tr (hs : env.scope = sc) (ha : AOk A envs d) {r : AV → WBl} {cs : List CmpOp} {xs : List Expr} (h : BothC C d sc nms q r cs xs) :
    ∀ (va : AV) (a : Value) (σ : St) (ow : Nat → Option Nat) (s : Shared) (Qa : Bool → St → Prop) (Ea : PE) (Q : Bool → Shared → Prop) (E : Value → Shared → Prop), VR C (Zs σ ow (zss envs)) s.heap va a →
    r va ρ σ Qa Ea → Ok C A q env envs nms ρ σ ow s → KV C envs σ ow s (RB C) Qa Q → KX C envs σ ow s Ea E →
    wpAny (model C.prog C.w) A (testChain pos a cs (evalEach xs env)) Q E s := by
  induction h with
  | one hf h =>
    intro va a σ ow s Qa Ea Q E ra w ok kv kx
    refine test_last (h.ev A env envs ρ hs ha σ ow s _ Ea _ E w ok (fun v av σ' ow' s' z st g r => ?_) kx)
    refine hf A envs σ' ow' s' _ _ _ _ _ _ _ ha.u64 g (st.vr ra) r z fun b t hb => wpAny_truthy_bool (kv _ b σ' ow' _ ?_ (st.tk t) (g.tk t) rfl)
    rcases iW hb with ⟨rfl, z⟩ | ⟨rfl, z⟩ <;> exact z
  | cons hf h _ ih =>
    intro va a σ ow s Qa Ea Q E ra w ok kv kx
    refine test_link (h.ev A env envs ρ hs ha σ ow s _ Ea _ E w ok (fun v av σ' ow' s' z st g r => ?_) kx)
    refine hf A envs σ' ow' s' _ _ _ _ _ _ _ ha.u64 g (st.vr ra) r z fun b t hb => ?_
    refine wpAny_truthy_bool ?_
    rcases iW hb with ⟨rfl, z⟩ | ⟨rfl, z⟩
    · exact kv _ false σ' ow' _ z (st.tk t) (g.tk t) rfl
    · exact ih _ _ σ' ow' _ Qa Ea Q E r z (ok.stp (st.tk t) (g.tk t)) (kv.stp (st.tk t)) (kx.stp (st.tk t) (g.tk t))
end
end Ap
end
section
namespace Ap
open PySem PySem.Calls PyProof.Rows
section
variable {C : Cx} {T : Tabs} {P : Prg} {F : Calls} {d : Nat} {sc : Scope} {nms : List Str} {q : Bool}
theorem Both.var {i : Nat} {n : Str} {pos : Pos} (h1 : nms[i]? = some n) (h2 : (n == ("__debug__" : Str)) = false) (h3 : (n == ("__classdict__" : Str)) = false) : Both C d sc nms q (aa i) (.Name n pos) :=
  .of rfl fun A env envs ρ hs ha σ ow s Qa Ea Q E w ok kv kx => by
    obtain ⟨v, e, w⟩ := gH w
    exact yc h1 h2 h3 ok kv e w
theorem Both.none {k : Nat} {pos : Pos} : Both C d sc nms q (vC .none) (.Constant .none k pos) :=
  .of rfl fun A env envs ρ hs ha σ ow s Qa Ea Q E w ok kv kx => wpAny_Constant_none (kv.here ok.good w .none)
theorem Both.bool {b : Bool} {k : Nat} {pos : Pos} : Both C d sc nms q (vC (.bool b)) (.Constant (.bool b) k pos) :=
  .of rfl fun A env envs ρ hs ha σ ow s Qa Ea Q E w ok kv kx => wpAny_Constant_bool (kv.here ok.good w (.bool b))
theorem Both.int {i : Int} {k : Nat} {pos : Pos} : Both C d sc nms q (vC (.int i)) (.Constant (.int i) k pos) :=
  .of rfl fun A env envs ρ hs ha σ ow s Qa Ea Q E w ok kv kx => wpAny_Constant_int (kv.val ok.good _ w (.int i _))
theorem Both.str {x : Str} {k : Nat} {pos : Pos} (h : PyData.strOk x = true) : Both C d sc nms q (vC (.str x)) (.Constant (.str x) k pos) :=
  .of rfl fun A env envs ρ hs ha σ ow s Qa Ea Q E w ok kv kx => wpAny_Constant_str (kv.val ok.good _ w (.str x _ h))
theorem eT {x : Str} (h : gl sc x = true) : sc.names.lookup x = some .globalImplicit ∧ (x == ("__debug__" : Str)) = false ∧ x ≠ "__name__" := by
  unfold gl at h
  rw [Bool.and_eq_true, Bool.and_eq_true, beq_iff_eq, Bool.not_eq_true', Bool.not_eq_true'] at h
  exact ⟨h.1.1, h.1.2, fun e => by rw [e] at h; exact absurd h.2 (by decide)⟩
theorem Both.tup {es : WL} {xs : List Expr} {k : Nat} {pos : Pos} (h : BothL C d sc nms q es xs) (hl : xs.length ≤ 1000) : Both C d sc nms q (dj es) (.Tuple xs k pos) :=
  .of rfl fun A env envs ρ hs ha σ ow s Qa Ea Q E w ok kv kx => by
    refine wpAny_Tuple (h.snd hs ha σ ow s _ Ea _ E w ok (fun vs avs σ' ow' s' z st g r => ?_) kx)
    have hv : vs.length ≤ 1000 := by rw [r.2]; exact hl
    refine ⟨by unfold sizeLine; omega, ?_⟩
    obtain ⟨hh, gg, dd, tt, oo⟩ := s'
    exact (kv.stp st).pushed g tt z (.tup ⟨by omega, _, Heap.get?_push_size _ rfl⟩ g.newZ (r.1.kp (fun _ _ e _ => Heap.get?_push_of_some _ e) (Zg.refl _ _)))
theorem Both.lst {own : Bool} {es : WL} {xs : List Expr} {pos : Pos} (h : BothL C d sc nms q es xs) (hl : xs.length ≤ 1000) : Both C d sc nms q (ee own es) (.List xs pos) :=
  .of rfl fun A env envs ρ hs ha σ ow s Qa Ea Q E w ok kv kx => by
    refine wpAny_List (h.snd hs ha σ ow s _ Ea _ E w ok (fun vs avs σ' ow' s' z st g r => ?_) kx)
    have hv : vs.length ≤ 1000 := by rw [r.2]; exact hl
    refine ⟨by unfold sizeLine; omega, ?_⟩
    obtain ⟨hh, gg, dd, tt, oo⟩ := s'
    exact qf g (kv.stp st) tt (by omega) z r.1
theorem Both.bin {f : O2} {op : Operator} {a b : WE} {l r : Expr} {pos : Pos} (hf : BinSnd C op f) (ha' : Both C d sc nms q a l) (hb : Both C d sc nms q b r) : Both C d sc nms q (vO2 f a b) (.BinOp l op r pos) :=
  .of rfl fun A env envs ρ hs ha σ ow s Qa Ea Q E w ok kv kx => by
    refine wpAny_BinOp (ha'.ev A env envs ρ hs ha σ ow s _ Ea _ E w ok (fun va a σ' ow' s' z st g r => ?_) kx)
    refine hb.ev A env envs ρ hs ha σ' ow' s' _ Ea _ E z (ok.stp st g) (fun vb b σ'' ow'' s'' z' st' g' r' => ?_) (kx.stp st g)
    exact hf A envs σ'' ow'' s'' _ _ _ _ _ _ _ g' ((kv.stp st).stp st') (st'.vr r) r' z'
theorem Both.idx {f : O2} {e i : WE} {v sl : Expr} {pos : Pos} (hf : kQ C f) (he : Both C d sc nms q e v) (hi : Both C d sc nms q i sl) (hp : ∀ o i, subscripted sl false o i = operate [o, i] (getItem o i)) : Both C d sc nms q (vO2 f e i) (.Subscript v sl pos) :=
  .of rfl fun A env envs ρ hs ha σ ow s Qa Ea Q E w ok kv kx => by
    refine Subscript_ (he.ev A env envs ρ hs ha σ ow s _ Ea _ E w ok (fun va a σ' ow' s' z st g r => ?_) kx)
    refine hi.ev A env envs ρ hs ha σ' ow' s' _ Ea _ E z (ok.stp st g) (fun vb b σ'' ow'' s'' z' st' g' r' => ?_) (kx.stp st g)
    exact hf A envs σ'' ow'' s'' _ _ _ _ _ _ _ _ _ hp g' ((kv.stp st).stp st') (st'.vr r) r' z'
theorem Both.slice {own : Bool} {lo hi : Nat} {li hj : Int} {e : WE} {v : Expr} {k1 k2 : Nat} {p1 p2 pp pos : Pos} (h1 : li = (lo : Int)) (h2 : hj = (hi : Int)) (he : Both C d sc nms q e v) :
    Both C d sc nms q (vO1 (oSl own lo hi) e) (.Subscript v (.Slice (some (.Constant (.int li) k1 p1)) (some (.Constant (.int hj) k2 p2)) Option.none pp) pos) :=
  .of rfl fun A env envs ρ hs ha σ ow s Qa Ea Q E w ok kv kx => by
    subst h1 h2
    refine Subscript_ (he.ev A env envs ρ hs ha σ ow s _ Ea _ E w ok (fun va a σ' ow' s' z st g r => ?_) kx)
    refine wpAny_Slice (wpAny_Constant_int (k := k1) (pos := p1) (wpAny_Constant_int (k := k2) (pos := p2) (wpAny_pure ?_)))
    exact yw (s := { s' with toks := s'.toks + 1 + 1 }) (g.tk _) ((kv.stp st).stp (Stp.toks _)) r z
theorem Both.not {a : WE} {x : Expr} {pos : Pos} (ha' : Both C d sc nms q a x) : Both C d sc nms q (vO1 dY a) (.UnaryOp .Not x pos) where
  ev := fun A env envs ρ hs ha σ ow s Qa Ea Q E w ok kv kx => by
    refine wpAny_UnaryOp (ha'.ev A env envs ρ hs ha σ ow s _ Ea _ E w ok (fun va a σ' ow' s' z st g r => ?_) kx)
    obtain ⟨b, rfl, rfl, z⟩ := pV (R := fun b σ => Qa (.bool (!b)) σ) r z
    exact not_value (wpAny_truthy_bool ((kv.stp st).here g z (.bool _)))
  tr := fun A env envs ρ hs ha σ ow s Qa Ea Q E w ok kv kx => by
    rw [arm_isTrue_UnaryOp]
    have w' : wT a ρ σ (fun b σ' => Qa (!b) σ') Ea := w
    refine wpAny_bind (ha'.tr A env envs ρ hs ha σ ow s _ Ea _ E w' ok (fun v b σ' ow' s' z st g r => ?_) kx)
    have r' : b = v := r
    subst r'
    exact wpAny_pure (kv _ _ σ' ow' s' z st g rfl)
theorem Both.bl {and : Bool} {r : WBl} {xs : List Expr} {pos : Pos} (h : BothBl C d sc nms q and r xs) : Both C d sc nms q (vBl r) (.BoolOp (if and then .And else .Or) xs pos) where
  ev := fun A env envs ρ hs ha σ ow s Qa Ea Q E w ok kv kx => by
    rw [arm_eval_BoolOp]
    refine h.ev hs ha σ ow s _ Ea _ E w ok (fun v b σ' ow' s' z st g r => ?_) kx
    subst r
    exact kv _ _ σ' ow' s' z st g (.bool b)
  tr := fun A env envs ρ hs ha σ ow s Qa Ea Q E w ok kv kx => by
    rw [arm_isTrue_BoolOp]
    exact h.tr hs ha σ ow s _ Ea _ E w ok kv kx
theorem Both.and {r : WBl} {xs : List Expr} {pos : Pos} (h : BothBl C d sc nms q true r xs) : Both C d sc nms q (vBl r) (.BoolOp .And xs pos) := Both.bl (and := true) h
theorem Both.or {r : WBl} {xs : List Expr} {pos : Pos} (h : BothBl C d sc nms q false r xs) : Both C d sc nms q (vBl r) (.BoolOp .Or xs pos) := Both.bl (and := false) h
theorem Both.cmp {a : WE} {l : Expr} {r : AV → WBl} {cs : List CmpOp} {xs : List Expr} {pos : Pos} (ha' : Both C d sc nms q a l) (h : BothC C d sc nms q r cs xs) (hm : lastMarks cs xs = false) : Both C d sc nms q (bK a r) (.Compare l cs xs pos) where
  ev := fun A env envs ρ hs ha σ ow s Qa Ea Q E w ok kv kx => by
    rw [arm_eval_Compare, markedEach_of_false _ _ _ hm]
    refine wpAny_bind (ha'.ev A env envs ρ hs ha σ ow s _ Ea _ E w ok (fun v av σ' ow' s' z st g r => ?_) kx)
    refine h.ev hs ha _ _ σ' ow' s' _ Ea _ E r z (ok.stp st g) (fun v b σ'' ow'' s'' z' st' g' r' => ?_) (kx.stp st g)
    subst r'
    exact kv _ _ σ'' ow'' s'' z' (st.trans st') g' (.bool b)
  tr := fun A env envs ρ hs ha σ ow s Qa Ea Q E w ok kv kx => by
    rw [arm_isTrue_Compare, markedEach_of_false _ _ _ hm]
    refine wpAny_bind (ha'.ev A env envs ρ hs ha σ ow s _ Ea _ E w ok (fun v av σ' ow' s' z st g r => ?_) kx)
    exact h.tr hs ha _ _ σ' ow' s' _ Ea _ E r z (ok.stp st g) (kv.stp st) (kx.stp st g)
theorem Both.attr (X : CxOk C T P) {e : WE} {c f : Nat} {v : Expr} {n : Str} {pos : Pos} (he : Both C d sc nms q e v) (hb : eh v = true) (hn : T.atN[f]? = some n) (hm : ∀ ci, P.cls[c]? = some ci → ci.meths.lookup f = Option.none) :
    Both C d sc nms q (vO1 (ay c f) e) (.Attribute v n pos) :=
  .of rfl fun A env envs ρ hs ha σ ow s Qa Ea Q E w ok kv kx => by
    refine Attribute_any_ (he.ev A env envs ρ hs ha σ ow s _ Ea _ E w ok (fun v av σ' ow' s' z st g r => wL X hn hm g (kv.stp st) r z) kx) ?_
    rw [arm_eval_Attribute, jB hb]
theorem HOk.call {A : Around} {f : Nat} {Z : Nat → Prop} {h : Heap} (x : HOk A q Z h) (hq : (!q || qOf P f) = true) : HOk A (qOf P f) Z h := by
  rcases x with x | ⟨e, r⟩
  · exact .inl x
  · subst e
    have : qOf P f = true := hq
    rw [this]
    exact .inr ⟨rfl, r⟩
theorem HOk.none {A : Around} {Z : Nat → Prop} {h : Heap} (x : HOk A false Z h) : A.handled = Option.none := x.elim id fun y => absurd y.1 Bool.false_ne_true
theorem BothL.callF (X : CxOk C T P) (hF : bZ C P d F) {A : Around} {env : Env} {envs : Vo} {ρ : Loc} {f : Nat} {es : WL} {xs : List Expr} {pos : Pos} (h : BothL C d sc nms q es xs) (hs : env.scope = sc) (ha : AOk A envs d) (hlt : f < T.fnN.length) (hq : (!q || qOf P f) = true)
    {σ : St} {ow : Nat → Option Nat} {s : Shared} {Qa : PQ} {Ea : PE} {Q : Value → Shared → Prop} {E : Value → Shared → Prop} {a0 : List AV} {v0 : List Value} (r0 : VRs C (Zs σ ow (zss envs)) s.heap a0 v0)
    (w : es ρ σ (fun vs σ' => F f (a0 ++ vs) σ' Qa Ea) Ea) (ok : Ok C A q env envs nms ρ σ ow s) (kv : KV C envs σ ow s (RV C) Qa Q) (kx : KX C envs σ ow s Ea E) :
    wpAny (model C.prog C.w) A (callWith pos (.ref (C.fnA f)) v0 (backTo pos (starEach xs env)) []) Q E s := by
  obtain ⟨oI, fd, f1, f2, f3⟩ := X.fnF f hlt
  refine callWith_function (o := oI) (fd := fd) (bS h.stars (h.snd hs ha σ ow s _ Ea _ E w ok (fun vs avs σ' ow' s' z st g r => ?_) kx))
  exact ⟨⟨g.stays _ _ f1, f3⟩, qI hF z g ha.toF ((ok.hnd.stp st).call hq) (VRs.append r.1 (st.vrs r0)) (kv.stp st) (kx.stp st g)⟩
theorem Both.call (X : CxOk C T P) (hF : bZ C P d F) {f : Nat} {n : Str} {es : WL} {xs : List Expr} {np pos : Pos} (h : BothL C d sc nms q es xs) (h1 : T.fnN[f]? = some n) (h2 : n ≠ Str.empty) (h3 : gl sc n = true) (hq : (!q || qOf P f) = true) :
    Both C d sc nms q (aT F f es) (.Call (.Name n np) xs [] pos) :=
  .of rfl fun A env envs ρ hs ha σ ow s Qa Ea Q E w ok kv kx => by
    obtain ⟨g1, g2, g3⟩ := eT h3
    refine wpAny_Call_ofName (gname X (by unfold Env.kindOf; rw [hs]; exact g1) g2 ok (X.fnN f n h1 h2) ?_)
    exact h.callF X hF hs ha (List.getElem?_eq_some_iff.mp h1).1 hq (a0 := []) (v0 := []) .nil w ok kv kx
theorem qj {M : Model} {A : Around} {E : Value → Shared → Prop} {s : Shared} {pos : Pos} {cc : Addr} {args : List (Bool × Sem Value)} {Q : Value → Shared → Prop} (hplain : args.any (·.1) = false)
    (h : wpAny M A (evalArgs (.ref cc) true args []) (fun x s₁ => (∃ nm q N bs bm hdct sn sub ab col dd k0 k1 k2 k3 k5 newId, s₁.heap.get? cc = some (excClassObj nm q cc N bs bm hdct sn sub ab col dd k0 k1 k2 k3 k5 newId)) ∧ wpAny M A (call (.ref cc) x.pos x.kw) Q E s₁) E s) :
    wpAny M A (callWith pos (.ref cc) [] args []) Q E s := by
  unfold callWith
  refine wpAny_bind (wpAny_holding (wpAny_mono h (fun a s₁ h₁ => wpAny_bind (wpAny_standAt ?_)) fun _ _ x => x))
  obtain ⟨⟨nm, q, N, bs, bm, hdct, sn, sub, ab, col, dd, k0, k1, k2, k3, k5, newId, hC⟩, h₁⟩ := h₁
  obtain ⟨hh, gg, dd', tt, oo⟩ := s₁
  simp only [hplain, List.any_nil, Bool.or_false]
  refine wpAny_bind (wpAny_keeperOf_exc hC ?_)
  exact wpAny_bind (wpAny_mono h₁ (fun r s₂ hr => wpAny_bind (wpAny_holding (wpAny_point (wpAny_pure hr)))) fun _ _ x => x)
theorem Both.new (X : CxOk C T P) (hF : bZ C P d F) {c f : Nat} {ci : ClsI} {n : Str} {es : WL} {xs : List Expr} {np pos : Pos} (h : BothL C d sc nms false es xs) (h1 : T.clsN[c]? = some n) (h3 : gl sc n = true) (hc : P.cls[c]? = some ci) (hi : ci.init = some f) (hlt : f < T.fnN.length) :
    Both C d sc nms false (nQ F c f es) (.Call (.Name n np) xs [] pos) :=
  .of rfl fun A env envs ρ hs ha σ ow s Qa Ea Q E w ok kv kx => by
    obtain ⟨g1, g2, g3⟩ := eT h3
    refine wpAny_Call_ofName (gname X (by unfold Env.kindOf; rw [hs]; exact g1) g2 ok (X.clsN c n h1) ?_)
    refine qj (bY h.stars) (bS h.stars (h.snd hs ha σ ow s _ Ea _ E w ok (fun vs avs σ' ow' s' z st g r => ?_) kx))
    have hci := X.ics c ci hc (by rw [hi]; exact Option.some_ne_none _)
    obtain ⟨ci', q1, q2⟩ := X.cls c hci
    obtain ⟨nm, q, N, bs, sn, sub, col, dd, k0, k1, k2, k3, k5, mN, c1, _⟩ := q2.ex
    exact ⟨⟨_, _, _, _, _, _, _, _, _, _, _, _, _, _, _, _, _, g.stays _ _ c1⟩, yF X hF hc hi hlt z g ha (.inl (ok.hnd.none)) r.1 (kv.stp st) (kx.stp st g)⟩
theorem nc {fs : List (Nat × AV)} {m : Nat} (h : aQ fs m = Option.none) : m ∉ fs.map (·.1) := by
  intro hm
  obtain ⟨p, hp, e⟩ := List.mem_map.mp hm
  unfold aQ at h
  rw [Option.map_eq_none_iff, List.find?_eq_none] at h
  exact h p hp (decide_eq_true e)
theorem Both.meth (X : CxOk C T P) (hF : bZ C P d F) {e : WE} {c m f : Nat} {ci : ClsI} {n : Str} {o : Expr} {es : WL} {xs : List Expr} {apos pos : Pos} (he : Both C d sc nms false e o) (h : BothL C d sc nms false es xs) (hb : eh o = true) (hn : T.atN[m]? = some n)
    (hline : (apos.endLine == pos.line) = true) (hlen : xs.length < 20) (hc : P.cls[c]? = some ci) (hf : ci.meths.lookup m = some f) (hlt : f < T.fnN.length) :
    Both C d sc nms false (bd F c m f e es) (.Call (.Attribute o n apos) xs [] pos) :=
  .of rfl fun A env envs ρ hs ha σ ow s Qa Ea Q E w ok kv kx => by
    rw [arm_eval_Call, jB hb]
    refine wpAny_bind (he.ev A env envs ρ hs ha σ ow s _ Ea _ E w ok (fun v av σ' ow' s' z st g r => ?_) kx)
    refine wpAny_bind (wpAny_standAt ?_)
    obtain ⟨a, fs, rfl, hσ, hnone, z⟩ := z
    cases r
    obtain ⟨dx, mA, I, _, fm, _, hcs⟩ := ORep.inst g hσ
    obtain ⟨ci', q1, q2⟩ := X.cls c hcs
    rw [hc] at q1
    cases q1
    obtain ⟨nm, q, N, bs, sn, sub, col, dd, k0, k1, k2, k3, k5, mN, c1, c2, c3, c4, c5, c6, c7, c8⟩ := q2.ex
    obtain ⟨en, lt⟩ := X.nm_lt hn
    obtain ⟨oI, fd, f1, f2, f3⟩ := X.fnF f hlt
    have hform : methodCallForm (xs.length + ([] : List Keyword).length) (backTo pos (starEach xs env)) (backToKw pos (keywordEach [] env)) = true := by
      unfold methodCallForm
      rw [kj h.stars]
      have e1 : backToKw pos (keywordEach [] env) = [] := rfl
      rw [e1]
      simp
      omega
    have hpos : methodCallPos true o env apos pos = pure pos := by unfold methodCallPos; simp [hline]
    have nsh : mA n = Option.none := by
      cases z' : mA n with
      | none => rfl
      | some u =>
        have hmem := fm.2 n (by rw [z']; exact Option.some_ne_none _)
        obtain ⟨p, hp, ep⟩ := List.mem_map.mp hmem
        have hf' : p.1 < T.atN.length := by
          apply Decidable.byContradiction
          intro hn'
          rw [X.nm, List.getD_eq_getElem?_getD, List.getElem?_eq_none (by omega)] at ep
          exact X.ne (by rw [show Str.empty = n from ep]; exact X.mem hn)
        have : p.1 = m := by
          rw [← en, X.nm, X.nm, List.getD_eq_getElem?_getD, List.getD_eq_getElem?_getD, List.getElem?_eq_getElem hf', List.getElem?_eq_getElem lt] at ep
          exact (List.getElem_inj X.inj).mp ep
        exact absurd (List.mem_map.mpr ⟨p, hp, this⟩) (nc hnone)
    unfold methodCall
    rw [hform]
    obtain ⟨hh, gg, dd', tt, oo⟩ := s'
    refine wpAny_bind (wpAny_holding (method_of (g.stays _ _ c1) (c2.keeps g.stays) c3 c4 (by rw [← en]; exact c7 m f hf) (g.stays _ _ f1) f2 (X.objN n (X.mem hn)) I nsh ?_))
    refine wpAny_bind (wpAny_of_eq hpos ?_)
    exact h.callF X hF hs ha hlt rfl (a0 := [.obj _]) (v0 := [.ref _]) (.cons (.obj _) .nil) z (ok.stp st g) (kv.stp st) (kx.stp st g)
structure BiOk (C : Cx) (q : Bool) (n : Str) (f : ON) : Prop where
  ex : ∃ fv, bootBuiltins n = some fv ∧ ((∃ id, fv = .builtin id) ∨ ∃ T, fv = .type T) ∧ fL C q fv f
theorem Both.bi (X : CxOk C T P) {q' : Bool} {f : ON} {n : Str} {es : WL} {xs : List Expr} {np pos : Pos} (hb : BiOk C q' n f) (h : BothL C d sc nms q es xs) (hn : n ∈ T.bltN) (h3 : gl sc n = true) (hq : q' = false → q = false) :
    Both C d sc nms q (vON f es) (.Call (.Name n np) xs [] pos) :=
  .of rfl fun A env envs ρ hs ha σ ow s Qa Ea Q E w ok kv kx => by
    obtain ⟨fv, hboot, hk, hS⟩ := hb.ex
    obtain ⟨g1, g2, g3⟩ := eT h3
    refine wpAny_Call_ofName (bname X (by unfold Env.kindOf; rw [hs]; exact g1) g2 ok hn g3 hboot ?_)
    have fin : wpAny (model C.prog C.w) A (evalArgs fv true (backTo pos (starEach xs env)) []) (fun x s₁ => wpAny (model C.prog C.w) A (PySem.call fv ([] ++ x.pos) x.kw) Q E s₁) E s := by
      refine bS h.stars (h.snd hs ha σ ow s _ Ea _ E w ok (fun vs avs σ' ow' s' z st g r => ?_) kx)
      refine hS A envs σ' ow' s' _ _ _ _ _ (fun e => ?_) g (kv.stp st) r.1 z
      have := hq e
      subst this
      exact ok.hnd.none
    rcases hk with ⟨id, rfl⟩ | ⟨T, rfl⟩
    · exact callWith_builtin (bY h.stars) fin
    · exact PyProof.Rows.callWith_type (bY h.stars) fin
theorem Both.isiG (X : CxOk C T P) {o : O1} {e : WE} {y : Expr} {n z : Str} {np zp pos : Pos} {tv : Value} (he : Both C d sc nms q e y) (hst : dg y = true) (hn : n = ("isinstance" : Str)) (hb : n ∈ T.bltN) (h3 : gl sc n = true)
    (hz : ∀ A env envs ρ σ ow s (Q : Value → Shared → Prop) E, env.scope = sc → Ok C A q env envs nms ρ σ ow s → Q tv s → wpAny (model C.prog C.w) A (eval (.Name z zp) env) Q E s)
    (hi : ∀ (A : Around) envs σ ow s (Qa : PQ) (Q : Value → Shared → Prop) E v u, Good C envs σ ow s → KV C envs σ ow s (RV C) Qa Q → VR C (Zs σ ow (zss envs)) s.heap v u → o v σ Qa → wpAny (model C.prog C.w) A (PySem.call (.builtin "isinstance") [u, tv]) Q E s) :
    Both C d sc nms q (vO1 o e) (.Call (.Name n np) [y, .Name z zp] [] pos) :=
  .of rfl fun A env envs ρ hs ha σ ow s Qa Ea Q E w ok kv kx => by
    obtain ⟨g1, g2, g3⟩ := eT h3
    refine wpAny_Call_ofName (bname X (by unfold Env.kindOf; rw [hs]; exact g1) g2 ok hb g3 (by rw [hn]; exact boot_isinstance) ?_)
    have hst' : [y, Expr.Name z zp].all dg = true := by rw [List.all_cons, hst]; rfl
    refine callWith_builtin (bY hst') (bS hst' ?_)
    rw [cq hst]
    refine spliced_cons (he.ev A env envs ρ hs ha σ ow s _ Ea _ E w ok (fun v av σ' ow' s' w' st g r => ?_) kx)
    rw [cq (show dg (Expr.Name z zp) = true from rfl)]
    refine spliced_cons (hz A env envs ρ σ' ow' s' _ _ hs (ok.stp st g) (spliced_nil ?_))
    exact hi A envs σ' ow' s' _ _ _ _ _ g (kv.stp st) r w'
theorem Both.isi (X : CxOk C T P) {t : Ty} {e : WE} {y : Expr} {n z : Str} {np zp pos : Pos} (he : Both C d sc nms q e y) (hst : dg y = true) (hn : n = ("isinstance" : Str)) (hb : n ∈ T.bltN) (h3 : gl sc n = true) (hz : bootBuiltins z = some (tyV t)) (hb' : z ∈ T.bltN) (h3' : gl sc z = true) :
    Both C d sc nms q (vO1 (nY t) e) (.Call (.Name n np) [y, .Name z zp] [] pos) :=
  .isiG X he hst hn hb h3 (fun A env envs ρ σ ow s Q E hs ok hq => by
    obtain ⟨g1, g2, g3⟩ := eT h3'
    exact bname X (by unfold Env.kindOf; rw [hs]; exact g1) g2 ok hb' g3 hz hq) fun A envs σ ow s Qa Q E v u g k r w => tM r w fun tk z => k.val g tk z (.bool _)
end
end Ap
end
section
namespace Ap
open PySem PySem.Calls PyProof.Rows
structure BothS (C : Cx) (d : Nat) (sc : Scope) (nms : List Str) (q : Bool) (w : WS) (x : Stmt) : Prop where
  snd : ∀ A env V outer, FEnv env nms V outer → env.scope = sc → AOk A V d → AO C A q env V nms (exec x env) w
structure BothB (C : Cx) (d : Nat) (sc : Scope) (nms : List Str) (q : Bool) (w : WS) (x : List Stmt) : Prop where
  snd : ∀ A env V outer, FEnv env nms V outer → env.scope = sc → AOk A V d → AO C A q env V nms (execs x env) w
noncomputable def dP : Expr → Bool
  | .ListComp .. => false
  | .SetComp .. => false
  | .DictComp .. => false
  | _ => true
theorem ib {e : Expr} {t : Option Expr} {line : Nat} {env : Env} (h : dP e = true) : swapsWith e t line env = pure false := by
  cases e <;> first | rfl | exact Bool.noConfusion h
section
variable {C : Cx} {T : Tabs} {P : Prg} {F : Calls} {d : Nat} {sc : Scope} {nms : List Str} {q : Bool}
theorem BothB.nil : BothB C d sc nms q ap [] where
  snd := fun A env V outer hF hs ha ρ σ ow s Qa Ea Q E w k ks kx => wpAny_execs_nil (ks _ _ ρ σ ow s w (SStp.refl _ _ _ _) k .next)
theorem BothB.cons {i is : WS} {x : Stmt} {xs : List Stmt} (h : BothS C d sc nms q i x) (hr : BothB C d sc nms q is xs) : BothB C d sc nms q (ad i is) (x :: xs) where
  snd := fun A env V outer hF hs ha ρ σ ow s Qa Ea Q E w k ks kx => by
    refine wpAny_execs_cons (h.snd A env V outer hF hs ha ρ σ ow s _ Ea _ E w k (fun fl af ρ' σ' ow' s' z st k' r => ?_) kx)
    cases r with
    | next => exact hr.snd A env V outer hF hs ha ρ' σ' ow' s' _ Ea _ E z k' (ks.stp st) (kx.stp st k'.ok.good)
    | ret r => exact ks _ _ ρ' σ' ow' s' z st k' (.ret r)
theorem BothS.assign {x : Nat} {n : Str} {e : WE} {v : Expr} {np pos : Pos} (he : Both C d sc nms q e v) (hc : dP v = true) (hn : nms[x]? = some n) : BothS C d sc nms q (au x e) (.Assign [.Name n np] v pos) where
  snd := fun A env V outer hF hs ha ρ σ ow s Qa Ea Q E w k ks kx => by
    refine wpAny_Assign_Name (he.ev A env V ρ hs ha σ ow s _ _ _ E w k.ok (fun u av σ' ow' s' z st g r => ?_) (kx.toE hF k)) (ib hc)
    refine dC hF hn (k.stp hF st g) r fun s'' st' k' => ?_
    exact ks _ _ _ σ' ow' s'' z (st.toS.trans st') k' .next
theorem BothS.setAttr (X : CxOk C T P) {o e : WE} {c f : Nat} {ov v : Expr} {n : Str} {np pos : Pos} (ho : Both C d sc nms q o ov) (he : Both C d sc nms q e v) (hc : dP v = true) (hn : T.atN[f]? = some n) (hm : P.cls.all (fun ci => (ci.meths.lookup f).isNone) = true) :
    BothS C d sc nms q (aL o c f e) (.Assign [.Attribute ov n np] v pos) where
  snd := fun A env V outer hF hs ha ρ σ ow s Qa Ea Q E w k ks kx => by
    refine plainObj_wpAny_Assign_Attribute (he.ev A env V ρ hs ha σ ow s _ _ _ E w k.ok (fun u av σ' ow' s' z st g r => ?_) (kx.toE hF k)) (ib hc)
    have k' := k.stp hF st g
    refine ho.ev A env V ρ hs ha σ' ow' s' _ _ _ E z k'.ok (fun u2 av2 σ₂ ow₂ s₂ z₂ st₂ g₂ r₂ => ?_) ((kx.stp st.toS g).toE hF k')
    obtain ⟨a, fs, rfl, hσ, hl, z₂⟩ := z₂
    cases r₂
    refine vT X hn hm g₂ hσ hl (st₂.vr r) fun s₃ st₃ g₃ => ?_
    exact ks _ _ ρ _ ow₂ s₃ z₂ ((st.trans st₂).trans st₃).toS ((k'.stp hF st₂ g₂).stp hF st₃ g₃) .next
theorem BothS.ret {e : WE} {v : Expr} {pos : Pos} (he : Both C d sc nms q e v) : BothS C d sc nms q (bI e) (.Return (some v) pos) where
  snd := fun A env V outer hF hs ha ρ σ ow s Qa Ea Q E w k ks kx => by
    refine wpAny_Return_some (he.ev A env V ρ hs ha σ ow s _ _ _ E w k.ok (fun u av σ' ow' s' z st g r => ?_) (kx.toE hF k))
    exact ks _ _ ρ σ' ow' s' z st.toS (k.stp hF st g) (.ret r)
theorem BothS.ite {c : WE} {a b : WS} {y : Expr} {xs ys : List Stmt} {pos : Pos} (hc : Both C d sc nms q c y) (h1 : BothB C d sc nms q a xs) (h2 : BothB C d sc nms q b ys) : BothS C d sc nms q (bP c a b) (.If y xs ys pos) where
  snd := fun A env V outer hF hs ha ρ σ ow s Qa Ea Q E w k ks kx => by
    refine wpAny_If (hc.tr A env V ρ hs ha σ ow s _ _ _ E w k.ok (fun v t σ' ow' s' z st g r => ?_) (kx.toE hF k))
    have r' : t = v := r
    subst r'
    have k' := k.stp hF st g
    cases t with
    | true => exact h1.snd A env V outer hF hs ha ρ σ' ow' s' _ Ea _ E z k' (ks.stp st.toS) (kx.stp st.toS g)
    | false => exact h2.snd A env V outer hF hs ha ρ σ' ow' s' _ Ea _ E z k' (ks.stp st.toS) (kx.stp st.toS g)
theorem we {M : Program} {w : World} {A : Around} {E : Value → Shared → Prop} {s : Shared} {env : Env} {e : Expr} {pos : Pos} {Q : Flow → Shared → Prop} (hi : interactive env = false) (hc : dP e = true) (h : wpAny (model M w) A (eval e env) (fun _ s' => Q .next s') E s) :
    wpAny (model M w) A (exec (.Expr e pos) env) Q E s := by
  rw [arm_exec_Expr]
  refine wpAny_bind (wpAny_standAt ?_)
  rw [hi]
  rw [if_neg (by decide), ib hc]
  refine wpAny_bind (wpAny_pure ?_)
  rw [if_neg (by decide)]
  refine wpAny_bind (wpAny_mono h (fun v s' hq => ?_) fun _ _ x => x)
  unfold dropValue
  split
  · exact wpAny_pure hq
  · exact wpAny_bind (wpAny_standAt (wpAny_bind (wpAny_runValue (codeAny_builtin entry_let_go (show wpAny _ _ (ret .none) _ _ _ from wpAny_pure (wpAny_pure hq))))))
  · exact wpAny_pure hq
theorem BothS.expr {e : WE} {v : Expr} {pos : Pos} (he : Both C d sc nms q e v) (hc : dP v = true) : BothS C d sc nms q (dz e) (.Expr v pos) where
  snd := fun A env V outer hF hs ha ρ σ ow s Qa Ea Q E w k ks kx => by
    refine we (by unfold interactive; rw [hF.kind]; rfl) hc (he.ev A env V ρ hs ha σ ow s _ _ _ E w k.ok (fun u av σ' ow' s' z st g r => ?_) (kx.toE hF k))
    exact ks _ _ ρ σ' ow' s' z st.toS (k.stp hF st g) .next
theorem BothS.rais (X : CxOk C T P) {c : Nat} {n : Str} {m : Str} {kk : Nat} {np cp mp pos : Pos} (hn : T.clsN[c]? = some n) (hg : gl sc n = true) (hx : c ∈ C.xcs) : BothS C d sc nms false (jh c) (.Raise (some (.Call (.Name n np) [.Constant (.str m) kk mp] [] cp)) Option.none pos) where
  snd := fun A env V outer hF hs ha ρ σ ow s Qa Ea Q E w k ks kx => by
    obtain ⟨nm, q, N, bs, bm, bmB, hdct, sn, sub, ab, col, dd, k0, k1, k2, k3, k5, B, newId, initId, mN, c1, c2, c3, c4, c5, c6⟩ := (X.exc c hx).ex
    obtain ⟨g1, g2, g3⟩ := eT hg
    refine wpAny_Raise_call_subT (nm := nm) (q := q) (N := N) (bs := bs) (hdct := hdct) (sn := sn) (sub := sub) (ab := ab) (col := col) (dd := dd) (k0 := k0) (k1 := k1) (k2 := k2) (k3 := k3) (k5 := k5) c5 c6 k.ok.hnd.none rfl c3 (gname X (by unfold Env.kindOf; rw [hs]; exact g1) g2 k.ok (X.clsN c n hn) ⟨rfl, ?_⟩)
    refine bS rfl ?_
    rw [cq rfl]
    refine spliced_cons (wpAny_Constant_str (k := kk) (pos := mp) (spliced_nil ?_))
    have G := k.ok.good.tk (s.toks + 1)
    refine ⟨rfl, by show 1 ≤ sizeLine; decide, G.stays _ _ c1, c2.keeps G.stays, ?_, fun h' e hm => ?_⟩
    · exact c4.keeps G.stays
    · obtain ⟨t, ht, hn1, hn2⟩ := hm.there
      have gr : ∀ b o, s.heap.get? b = some o → h'.get? b = some o := hm.keeps
      have st : Stp (frs V) (Own σ ow) (Own σ ow) s { s with heap := h', toks := s.toks + 1 } := Stp.ext gr _
      have g' : Good C V σ ow { s with heap := h', toks := s.toks + 1 } := k.ok.good.ext gr _
      have nz : ¬ Zs σ ow (zss V) e := by
        rintro (z | z)
        · obtain ⟨o, y⟩ := k.ok.good.live z
          have hnew : s.heap.get? e = Option.none := hm.new
          rw [hnew] at y; cases y
        · obtain ⟨_, o, y⟩ := k.ok.good.mem _ z
          have hnew : s.heap.get? e = Option.none := hm.new
          rw [hnew] at y; cases y
      exact kx e c ρ σ ow _ w st.toS (k.stp hF st g') ⟨⟨hm.new, nz, hx⟩, Option.none, ⟨_, _, _, ht, rfl, rfl, rfl, rfl, rfl, rfl⟩, fun T fl z => by cases z⟩
noncomputable def jD : Expr → Bool
  | .Set .. => false
  | _ => true
theorem gi {e : Expr} {env : Env} {x : Value} (h : jD e = true) : foldedSetIterable e env x = pure x := by
  cases e <;> first | rfl | exact Bool.noConfusion h
theorem oO {prog : Program} {w : World} {A : Around} {E : Value → Shared → Prop} {s : Shared} {l : Addr} {vs : List Value} {Q : Value → Shared → Prop} (li : IsL s.heap l vs)
    (h : ∀ h', (∀ b o, s.heap.get? b = some o → h'.get? b = some o) → h'.IsListIter s.heap.objs.size l 0 → Q (.ref s.heap.objs.size) { s with heap := h' }) : wpAny (model prog w) A (pyIter (.ref l)) Q E s :=
  wpAny_pyIter_list li.isList (h _ (fun _ _ e => Heap.get?_push_of_some _ e) ⟨_, Heap.get?_push_size _ rfl, rfl, rfl⟩)
theorem lk {a : AV} {v : Value} {xs : List AV} {V : Vo} {σ : St} {ow : Nat → Option Nat} {s : Shared} (g : Good C V σ ow s) (r : VR C (Zs σ ow (zss V)) s.heap a v) (e : dS σ a = some xs) :
    ∃ l vs, v = .ref l ∧ IsL s.heap l vs ∧ VRs C (Zs σ ow (zss V)) s.heap xs vs ∧ (a = .ilist xs ∧ (¬ Zs σ ow (zss V) l) ∨ a = .obj l ∧ σ l = some (.list xs)) := by
  cases r with
  | ilist at_ off r => cases e; exact ⟨_, _, rfl, at_, r, .inl ⟨rfl, off⟩⟩
  | obj a =>
    obtain ⟨vs, li, rr⟩ := g.store _ _ (cW e)
    exact ⟨_, vs, rfl, li, rr, .inr ⟨rfl, cW e⟩⟩
  | _ => cases e
theorem Heap.fresh (h : Heap) : h.get? h.objs.size = Option.none := by
  cases e : h.get? h.objs.size with
  | none => rfl
  | some o => exact absurd (Heap.lt_size e) (Nat.lt_irrefl _)
theorem BothS.forL {e : WE} {v : Expr} {x : Nat} {n : Str} {body : WS} {xs : List Stmt} {np pos : Pos} (he : Both C d sc nms q e v) (hB : BothB C d sc nms q body xs) (hv : jD v = true) (hn : nms[x]? = some n) :
    BothS C d sc nms q (vQ x e body) (.For (.Name n np) v xs [] pos) where
  snd := fun A env V outer hF hs ha ρ σ ow s Qa Ea Q E w k ks kx => by
    refine wpAny_For (he.ev A env V ρ hs ha σ ow s _ _ _ E w k.ok (fun u av σ' ow' s' z st g r => ?_) (kx.toE hF k)) fun x => gi hv
    have k' := k.stp hF st g
    have hA : A.frames = some V.l := ha.frames
    obtain ⟨items, hseq, z⟩ := z
    obtain ⟨l, vs, rfl, li, rr, hc⟩ := lk g r hseq
    obtain ⟨hh, gg, dd, tt, oo⟩ := s'
    refine oO li fun h' gr it => ?_
    have nI : hh.get? hh.objs.size = Option.none := Heap.fresh _
    have fr : ∀ b ∈ [hh.objs.size], hh.get? b = Option.none ∧ ∃ o, h'.get? b = some o := fun b m => by
      rw [List.mem_singleton.mp m]
      obtain ⟨o, e, _⟩ := it
      exact ⟨nI, o, e⟩
    have ko := k'.open_ (h' := h') (t := tt) (wr := [hh.objs.size]) gr fr
    have st' : Stp (frs V) (Own σ' ow') (Own σ' ow') ⟨hh, gg, dd, tt, oo⟩ { heap := h', gens := gg, drawn := dd, toks := tt, os := oo } := Stp.ext gr tt
    have ss : SStp (dL env) V.fs (Own σ ow) (Own σ' ow') s { heap := h', gens := gg, drawn := dd, toks := tt, os := oo } := (st.trans st').toS
    have fr0 : ∀ b ∈ [hh.objs.size], s.heap.get? b = Option.none := fun b m => st.back rfl g b (fr b m).1
    have nz : ∀ b ∈ [hh.objs.size], b ∉ V.its := fun b m n => by
      obtain ⟨_, o, y⟩ := k.ok.good.mem b (List.mem_append_right _ n)
      rw [fr0 b m] at y; cases y
    rcases hc with ⟨rfl, off⟩ | ⟨rfl, hst⟩
    · have zg : Zg (Zs σ' ow' (zss V)) (Zs σ' ow' (zss (V.plus [hh.objs.size]))) hh := fun b y => by
        rcases y with y | y
        · exact .inl (.inl y)
        · rcases Vo.plus_mem y with y | y
          · exact .inl (.inr y)
          · exact .inr (fr b y).1
      obtain ⟨y1, m, y2⟩ := li
      exact jR hF hA (It.ilist (ax := l) (vs := vs)) (hB.snd A env (V.plus [hh.objs.size]) outer hF.plus hs ha.plus) (.one hF.plus hn) k.ok.good.stays fr0 nz ks kx ⟨it, ⟨y1, m, gr _ _ y2⟩, rr.kp (fun b o e _ => gr b o e) zg, zg.not y2 off⟩ ko ss (fun v ρ σ R h => ⟨_, rfl, h⟩) z
    · exact jR hF hA It.own (hB.snd A env (V.plus [hh.objs.size]) outer hF.plus hs ha.plus) (.one hF.plus hn) k.ok.good.stays fr0 nz ks kx it ko ss (fun v ρ σ R h => ⟨_, rfl, h⟩) z
end
end Ap
end
section
namespace Ap
open PySem PySem.Calls PyProof.Rows
section
variable {C : Cx} {T : Tabs} {P : Prg} {F : Calls} {d : Nat} {sc : Scope} {nms : List Str} {q : Bool}
inductive BothH (C : Cx) (T : Tabs) (P : Prg) (d : Nat) (sc : Scope) (nms : List Str) : WH → List ExceptHandler → Prop
  | nil : BothH C T P d sc nms At []
  | cons {dd x : Nat} {b : WS} {n y : Str} {np pos : Pos} {b₀ : Stmt} {bs : List Stmt} {r : WH} {rest : List ExceptHandler} {cj : ClsI} : T.clsN[dd]? = some n → gl sc n = true → P.cls[dd]? = some cj → cj.init = Option.none → nms[x]? = some y → sc.names.lookup y = some .local →
      BothB C d sc nms true b (b₀ :: bs) → BothH C T P d sc nms r rest → BothH C T P d sc nms (AZ P.cls dd x b r) (.ExceptHandler (some (.Name n np)) (some y) (b₀ :: bs) pos :: rest)
variable {A : Around} {env : Env} {V : Vo} {outer : List Env} {ρ : Loc} {σ : St} {ow : Nat → Option Nat} {s : Shared}
theorem SOk.mark {e : Addr} {c : Nat} {t : Option (Addr × Value)} (k : SOk C A q env V nms ρ σ ow s) (x : ExO s.heap e (.ref (C.clsA c)) t) (n : ¬ Zs σ ow (zss V) e) : SOk C (A.mark (some (.ref e))) true env V nms ρ σ ow s := by
  obtain ⟨oe, vs, a0, x1, x2, x3, x4, x5, x6, x7⟩ := x
  exact ⟨⟨k.ok.good, k.ok.loc, .inr ⟨rfl, e, oe, vs, rfl, x1, x4, x6, n⟩, k.ok.live⟩, k.ns, k.cells⟩
theorem SOk.unmark {e : Addr} {q' : Bool} (hh : A.handled = Option.none) (k : SOk C (A.mark (some (.ref e))) q' env V nms ρ σ ow s) : SOk C A false env V nms ρ σ ow s :=
  ⟨⟨k.ok.good, k.ok.loc, .inl hh, k.ok.live⟩, k.ns, k.cells⟩
theorem vi (hF : FEnv env nms V outer) {n : Str} {pos : Pos} {Q : Unit → Shared → Prop} {E : Value → Shared → Prop} (hl : env.kindOf n = some .local) (k : SOk C A q env V nms ρ σ ow s)
    (K : ∀ s', SStp (dL env) V.fs (Own σ ow) (Own σ ow) s s' → SOk C A q env V nms [] σ ow s' → Q () s') : wpAny (model C.prog C.w) A (do bindName env n .none; unbindBehindTheSuite env n pos) Q E s := by
  obtain ⟨m, hn⟩ := k.ns
  refine wpAny_nameGoes hl hn (by rw [hF.kind]; rfl) fun h' m' hn' hs => ?_
  have hk : ∀ b ob, b ≠ env.locals → s.heap.get? b = some ob → h'.get? b = some ob := fun b ob nb e => (hs.2 b nb).trans e
  have hlv : ∃ o, h'.get? env.locals = some o ∧ ∀ vs, o.data ≠ .fields vs := by
    obtain ⟨o, es, ep, ho, hd, _⟩ := hn'
    exact ⟨o, ho, fun vs q => by rw [hd] at q; cases q⟩
  have st : SStp (dL env) V.fs (Own σ ow) (Own σ ow) s { s with heap := h', toks := s.toks + 1 } := SStp.touch _ List.mem_cons_self hF.inF hk (let ⟨o, e, _⟩ := hlv; ⟨o, e⟩)
  refine K _ st ⟨⟨k.ok.good.touch hF.inF hk hlv _, ⟨k.ok.loc.kind, k.ok.loc.glob, k.ok.loc.blt, k.ok.loc.offL, fun j w e => by simp [gz] at e⟩, k.ok.hnd.sstp st, let ⟨o, e, _⟩ := hlv; ⟨o, e⟩⟩, ⟨_, hn'⟩, fun y c hc => ?_⟩
  obtain ⟨v', o, eo, d⟩ := k.cells y c hc
  exact ⟨v', o, hk _ _ (hF.cel y c hc).2 eo, d⟩
theorem rN (X : CxOk C T P) (hF : FEnv env nms V outer) (hs : env.scope = sc) (ha : AOk A V d) (hh : A.handled = Option.none) {σ₀ : St} {ow₀ : Nat → Option Nat} {s₀ : Shared} {Qa : QS} {Ea : ES} {Q : Flow → Shared → Prop} {E : Value → Shared → Prop} {e Tb : Addr} {c : Nat}
    (hb : C.base.StaysIn s₀.heap) (ks : KS C A false env V nms σ₀ ow₀ s₀ Qa Q) (kx : KXS C A false env V nms σ₀ ow₀ s₀ Ea E) (hxc : c ∈ C.xcs) {hs' : WH} {xs : List ExceptHandler} (hB : BothH C T P d sc nms hs' xs) :
    ∀ ρ σ ow s, hs' c ρ σ Qa Ea → SOk C A false env V nms ρ σ ow s → SStp (dL env) V.fs (Own σ₀ ow₀) (Own σ ow) s₀ s →
      ExO s.heap e (.ref (C.clsA c)) (some (Tb, .none)) → s₀.heap.get? e = Option.none ∧ ¬ Zs σ ow (zss V) e → s₀.heap.get? Tb = Option.none → ¬ Zs σ ow (zss V) Tb →
      wpAny (model C.prog C.w) A (handleBy (.ref e) env xs) Q E s := by
  induction hB with
  | nil =>
    intro ρ σ ow s w k st x n nT nZ
    refine wpAny_handleBy_nil ?_
    unfold PySem.passOn
    obtain ⟨oe, vs, a0, x1, x2, x3, x4, x5, x6, x7, x8⟩ := id x
    refine wpAny_bind (wpAny_field x1 x4 x7 ?_)
    rw [if_neg (by simp)]
    refine wpAny_bind (dB hF hb st k n x nT nZ fun s' st' k' x' => ?_)
    rw [hF.frame] at x'
    exact wpAny_throw (kx e c ρ σ ow s' w st' k' ⟨⟨n.1, n.2, hxc⟩, _, x', fun T' fl' z => by cases z; exact ⟨.inr rfl, nT, nZ⟩⟩)
  | @cons dd x b nm y np pos b₀ bs r rest cj h1 h2 h3 h4 h5 h6 h7 _ ih =>
    intro ρ σ ow s w k st xo n nT nZ
    obtain ⟨ci, hci, w⟩ := w
    obtain ⟨g1, g2, g3⟩ := eT h2
    have km := k.mark xo n.2
    refine wpAny_handleBy_cons (codeAny_handlers_test (gname X (by unfold Env.kindOf; rw [hs]; exact g1) g2 km.ok (X.clsN dd nm h1) ?_)) (by intro q; cases q)
    obtain ⟨oe, vs, a0, x1, x2, x3, x4, x5, x6, x7, x8⟩ := id xo
    refine X.exm c hxc dd (X.xcs dd cj h3 h4) ci hci _ _ _ s e oe vs k.ok.good.stays x1 x3 x4 x2 ?_
    cases hsup : ci.sups.contains dd with
    | false =>
      rw [hsup] at w
      exact ih ρ σ ow s w k st xo n nT nZ
    | true =>
      rw [hsup] at w
      have ham : AOk (A.mark (some (.ref e))) V d := ha.mark _
      have hl : env.kindOf y = some .local := by unfold Env.kindOf; rw [hs]; exact h6
      refine codeAny_handlers_suite_as (dB hF hb st km n xo nT nZ fun s' st' k' x' => ?_)
      obtain ⟨oe', vs', a0', y1, y2, y3, y4, _⟩ := id x'
      refine dC hF (v := .exn c) h5 k' (.exn y1 y3 y4 y2 hxc n.2) fun s₂ st₂ k₂ => ?_
      refine h7.snd _ env V outer hF hs ham _ σ ow s₂ _ _ _ _ w k₂ (fun fl af ρ₃ σ₃ ow₃ s₃ z st₃ k₃ rf => ?_) (fun e c ρ₃ σ₃ ow₃ s₃ z st₃ k₃ th => False.elim z)
      cases rf with
      | next => exact False.elim z
      | ret r =>
        refine vi hF hl (k₃.unmark hh) fun s₄ st₄ k₄ => ?_
        exact ks _ _ [] σ₃ ow₃ s₄ z (((st'.trans st₂).trans st₃).trans st₄) k₄ (.ret (st₄.vr r))
end
end Ap
end
section
namespace Ap
open PySem PySem.Calls PyProof.Rows
noncomputable def okF (fi : FnI) (ft : FnT) : Bool :=
  decide ft.nms.Nodup && ft.nms.all (fun x => ft.sc.names.lookup x == some .local || ft.sc.names.lookup x == some .cell) && ft.sc.kind == .function && !ft.sc.isGenerator && !ft.sc.isCoroutine &&
    decide (fi.arity ≤ ft.nms.length) && decide (fi.arity ≤ fi.nloc)
theorem nS (x : Str) : ∀ (names : List (Str × NameKind)) (n : Nat) (acc : List (Str × Addr)), (acc.lookup x).isSome = true → ((cellsFrom n names acc).lookup x).isSome = true := by
  intro names
  induction names with
  | nil => intro n acc h; exact h
  | cons p r ih =>
    obtain ⟨nm, kd⟩ := p
    intro n acc h
    rw [cellsFrom]
    split
    · refine ih _ _ ?_
      rw [List.lookup_cons]
      cases hb : x == nm with
      | true => rfl
      | false => exact h
    · exact ih _ _ h
theorem nR (x : Str) : ∀ (names : List (Str × NameKind)) (n : Nat) (acc : List (Str × Addr)), names.lookup x = some .cell → ((cellsFrom n names acc).lookup x).isSome = true := by
  intro names
  induction names with
  | nil => intro n acc h; cases h
  | cons p r ih =>
    obtain ⟨nm, kd⟩ := p
    intro n acc h
    rw [List.lookup_cons] at h
    rw [cellsFrom]
    cases hb : x == nm with
    | true =>
      rw [hb] at h
      cases h
      rw [if_pos (by decide)]
      exact nS x r _ _ (by rw [List.lookup_cons, hb]; rfl)
    | false =>
      rw [hb] at h
      split
      · exact ih _ _ h
      · exact ih _ _ h
theorem qG {kd : Str → Option NameKind} {x : Str} : ∀ (binds : List (Str × Value)) (m : Str → Option Value), x ∉ binds.map (·.1) → bindL kd binds m x = m x := by
  intro binds
  induction binds with
  | nil => intro m h; rfl
  | cons p r ih =>
    obtain ⟨n, v⟩ := p
    intro m h
    rw [List.map_cons, List.mem_cons, not_or] at h
    rw [bindL, ih _ h.2]
    split
    · exact if_neg h.1
    · rfl
theorem uu {kd : Str → Option NameKind} {x : Str} {v : Value} : ∀ (binds : List (Str × Value)) (m : Str → Option Value), (binds.map (·.1)).Nodup → (x, v) ∈ binds → kd x = some .local → bindL kd binds m x = some v := by
  intro binds
  induction binds with
  | nil => intro m hd h; cases h
  | cons p r ih =>
    obtain ⟨n, u⟩ := p
    intro m hd h hk
    rw [List.map_cons, List.nodup_cons] at hd
    rw [bindL]
    rcases List.mem_cons.mp h with e | h
    · cases e
      rw [qG r _ hd.1, if_pos hk, if_pos rfl]
    · exact ih _ hd.2 h hk
theorem qB {kd : Str → Option NameKind} {x : Str} : ∀ (binds : List (Str × Value)) (m : Str → Option Value), x ∉ binds.map (·.1) → bindC kd binds m x = m x := by
  intro binds
  induction binds with
  | nil => intro m h; rfl
  | cons p r ih =>
    obtain ⟨n, v⟩ := p
    intro m h
    rw [List.map_cons, List.mem_cons, not_or] at h
    rw [bindC, ih _ h.2]
    split
    · rfl
    · exact if_neg h.1
theorem uV {kd : Str → Option NameKind} {x : Str} {v : Value} : ∀ (binds : List (Str × Value)) (m : Str → Option Value), (binds.map (·.1)).Nodup → (x, v) ∈ binds → ¬ kd x = some .local → bindC kd binds m x = some v := by
  intro binds
  induction binds with
  | nil => intro m hd h; cases h
  | cons p r ih =>
    obtain ⟨n, u⟩ := p
    intro m hd h hk
    rw [List.map_cons, List.nodup_cons] at hd
    rw [bindC]
    rcases List.mem_cons.mp h with e | h
    · cases e
      rw [qB r _ hd.1, if_neg hk, if_pos rfl]
    · exact ih _ hd.2 h hk
noncomputable def oA (env : Env) : List Addr := env.cells.filterMap fun p => if env.cells.lookup p.1 = some p.2 then some p.2 else Option.none
theorem lB {env : Env} {c : Addr} (h : c ∈ oA env) : ∃ n, env.cells.lookup n = some c := by
  obtain ⟨p, _, e⟩ := List.mem_filterMap.mp h
  by_cases q : env.cells.lookup p.1 = some p.2
  · rw [if_pos q] at e; cases e; exact ⟨_, q⟩
  · rw [if_neg q] at e; cases e
theorem uy {env : Env} {n : Str} {c : Addr} (h : env.cells.lookup n = some c) : c ∈ oA env :=
  List.mem_filterMap.mpr ⟨(n, c), mem_of_lookup h, if_pos h⟩
noncomputable def Vo.call (V : Vo) (env : Env) : Vo := ⟨env :: V.l, env.locals :: oA env ++ V.fs, V.its⟩
section
variable {C : Cx} {T : Tabs} {P : Prg} {A : Around} {q : Bool} {env : Env} {V : Vo} {nms : List Str} {ρ : Loc} {σ σ' : St} {ow ow' : Nat → Option Nat} {s s' : Shared}
theorem Vo.call_sub : ∀ b ∈ zss V, b ∈ zss (V.call env) := fun b h => by
  rcases List.mem_append.mp h with h | h
  · exact List.mem_append_left _ (List.mem_append_right _ h)
  · exact List.mem_append_right _ h
theorem Vo.call_fs {b : Addr} (h : b ∈ (V.call env).fs) : b = env.locals ∨ b ∈ oA env ∨ b ∈ V.fs := by
  rcases List.mem_append.mp h with h | h
  · rcases List.mem_cons.mp h with h | h
    · exact .inl h
    · exact .inr (.inl h)
  · exact .inr (.inr h)
theorem Vo.call_mem {b : Addr} (h : b ∈ zss (V.call env)) : (b = env.locals ∨ b ∈ oA env) ∨ b ∈ zss V := by
  rcases List.mem_append.mp h with h | h
  · rcases Vo.call_fs h with h | h | h
    · exact .inl (.inl h)
    · exact .inl (.inr h)
    · exact .inr (List.mem_append_left _ h)
  · exact .inr (List.mem_append_right _ h)
theorem mj {b : Addr} (h : Zs σ ow (zss V) b) : Zs σ ow (zss (V.call env)) b := h.imp id (Vo.call_sub b)
theorem Good.call_ {h' : Heap} {t : Nat} (G : Good C V σ ow s) (hk : env.scope.kind ≠ .module) (hf : env.frame = some env.locals) (gr : ∀ b o, s.heap.get? b = some o → h'.get? b = some o) (frL : s.heap.get? env.locals = Option.none) (lvL : ∃ o, h'.get? env.locals = some o ∧ ∀ vs, o.data ≠ .fields vs)
    (frC : ∀ n c, env.cells.lookup n = some c → s.heap.get? c = Option.none ∧ ∃ o, h'.get? c = some o) : Good C (V.call env) σ ow { s with heap := h', toks := t } := by
  have fr : ∀ b, b = env.locals ∨ b ∈ oA env → s.heap.get? b = Option.none ∧ ∃ o, h'.get? b = some o := fun b m => by
    rcases m with m | m
    · subst m; exact ⟨frL, lvL.imp fun o e => e.1⟩
    · obtain ⟨n, e⟩ := lB m
      exact frC n b e
  have bn : ∀ b, s.heap.get? b = Option.none → C.base.get? b = Option.none := fun b e => by
    cases z : C.base.get? b with
    | none => rfl
    | some o => have := G.stays b o z; rw [e] at this; cases this
  have zg : Zg (Zs σ ow (zss V)) (Zs σ ow (zss (V.call env))) s.heap := fun b z => by
    rcases z with z | z
    · exact .inl (.inl z)
    · rcases Vo.call_mem z with z | z
      · exact .inr (fr b z).1
      · exact .inl (.inr z)
  refine ⟨fun b o e => gr b o (G.stays b o e), ⟨hk, ?_, G.frames.of_keeps fun b o e _ => ⟨o, gr b o e, rfl⟩⟩, fun b m n => ?_, fun b m => ?_, fun e' he L hL => ?_, fun b o' e => ?_, fun b c e => ?_, G.fresh, fun L hL z => ?_, G.gens⟩
  · obtain ⟨o, e, hd⟩ := lvL
    exact ⟨_, o, hf, bn _ frL, e, hd⟩
  · rcases Vo.call_fs n with n | n | n
    · obtain ⟨_, o, z⟩ := G.mem b (List.mem_append_right _ m)
      rw [(fr b (.inl n)).1] at z; cases z
    · obtain ⟨_, o, z⟩ := G.mem b (List.mem_append_right _ m)
      rw [(fr b (.inr n)).1] at z; cases z
    · exact G.apart b m n
  · rcases Vo.call_mem m with m | m
    · exact ⟨bn _ (fr b m).1, (fr b m).2⟩
    · obtain ⟨x, o, z⟩ := G.mem b m
      exact ⟨x, o, gr b o z⟩
  · rcases List.mem_cons.mp he with he | he
    · subst he
      rw [hf] at hL
      cases hL
      exact List.mem_append_left _ List.mem_cons_self
    · exact List.mem_append_right _ (G.sub e' he L hL)
  · have x := G.store b o' e
    obtain ⟨oa, ea⟩ := Option.isSome_iff_exists.mp x.live
    exact x.kp (fun b o e _ => gr b o e) zg (by rw [ea]; exact gr b oa ea) fun dx hd => by
      obtain ⟨od, ed⟩ := Option.isSome_iff_exists.mp (G.parts dx b hd).2.2
      exact ⟨by rw [ed]; exact gr dx od ed, hd⟩
  · obtain ⟨x1, x2, x3⟩ := G.parts b c e
    obtain ⟨od, ed⟩ := Option.isSome_iff_exists.mp x3
    exact ⟨x1, x2, by show (h'.get? b).isSome = true; rw [gr b od ed]; rfl⟩
  · rcases Vo.call_mem hL with m | m
    · obtain ⟨o, y⟩ := G.live z
      rw [(fr L m).1] at y; cases y
    · exact G.off L m z
theorem Good.left_ (hsub : ∀ env ∈ V.l, ∀ L, env.frame = some L → L ∈ V.fs) (G : Good C (V.call env) σ ow s) : Good C V σ ow s := by
  have zg : ∀ h : Heap, Zg (Zs σ ow (zss (V.call env))) (Zs σ ow (zss V)) h := fun h b z => .inl (mj z)
  refine ⟨G.stays, G.frames.2.2, fun b m n => G.apart b m (List.mem_append_right _ n), fun b m => G.mem b (Vo.call_sub b m), hsub, fun b o' e => ?_, G.parts, G.fresh, fun L hL => G.off L (Vo.call_sub L hL), G.gens⟩
  · exact (G.store b o' e).kp (fun _ _ e _ => e) (zg _) rfl fun dx hd => ⟨rfl, hd⟩
theorem xg {nms : List Str} {vs : List AV} {vals : List Value} {Z : Nat → Prop} {h : Heap} {n : Nat} (r : VRs C Z h vs vals) (hl : vs.length = n) (hn : n ≤ nms.length) {k i : Nat} {v : AV} (e : gz (vs.map some ++ List.replicate k Option.none) i = some v) :
    ∃ x u, nms[i]? = some x ∧ (x, u) ∈ (nms.take n).zip vals ∧ VR C Z h v u := by
  unfold gz at e
  rw [List.getD_eq_getElem?_getD] at e
  have hi : i < vs.length := by
    apply Decidable.byContradiction
    intro q
    rw [List.getElem?_append_right (by simpa using Nat.le_of_not_lt q)] at e
    simp only [List.length_map] at e
    rcases Nat.lt_or_ge (i - vs.length) k with z | z
    · rw [List.getElem?_replicate, if_pos z] at e; cases e
    · rw [List.getElem?_replicate, if_neg (by omega)] at e; cases e
  rw [List.getElem?_append_left (by simpa using hi), List.getElem?_map, List.getElem?_eq_getElem hi] at e
  simp at e
  subst e
  obtain ⟨u, hu, ru⟩ := r.get i _ (List.getElem?_eq_getElem hi)
  have hi2 : i < nms.length := by omega
  refine ⟨nms[i], u, List.getElem?_eq_getElem hi2, ?_, ru⟩
  refine List.mem_of_getElem? (i := i) ?_
  rw [List.getElem?_zip_eq_some]
  refine ⟨?_, hu⟩
  rw [List.getElem?_take, if_pos (by omega), List.getElem?_eq_getElem hi2]
theorem vJ {d : Nat} {F : Calls} (X : CxOk C T P) {f : Nat} {fi : FnI} {ft : FnT} (hfi : P.fns[f]? = some fi) (hO : FnOk C (C.fnA f) ft fi.arity) (hok : okF fi ft = true) (hB : BothB C d ft.sc ft.nms fi.quiet (fi.body F) ft.body)
    {vs : List AV} {vals : List Value} {Qa : PQ} {Ea : PE} {R : Result → Shared → Prop} (hl : vs.length = fi.arity)
    (w : fi.body F (vs.map some ++ List.replicate (fi.nloc - fi.arity) Option.none) σ (kFn Qa) (eFn Ea))
    (G : Good C V σ ow s) (ha : AOkF A V (d + 1)) (hh : HOk A fi.quiet (Zs σ ow (zss V)) s.heap) (r : VRs C (Zs σ ow (zss V)) s.heap vs vals)
    (kv : KV C V σ ow s (RV C) Qa (fun v s' => R (.ok (.ret v)) s')) (kx : KX C V σ ow s Ea (fun e s' => R (.error e) s')) : codeAny (model C.prog C.w) A (.call (.ref (C.fnA f)) ⟨vals, []⟩) R s := by
  obtain ⟨o, fd, f1, f2, f3, f4, f5, f6, f7, f8, f9, f10⟩ := hO.ex
  unfold okF at hok
  simp only [Bool.and_eq_true, decide_eq_true_eq, beq_iff_eq, Bool.not_eq_true', List.all_eq_true, Bool.or_eq_true] at hok
  obtain ⟨⟨⟨⟨⟨⟨o2, o3⟩, o4⟩, o5⟩, o6⟩, o7⟩, o8⟩ := hok
  have hlv : vals.length = fi.arity := r.length ▸ hl
  have hcell : ∀ x, ft.sc.names.lookup x = some .cell → ((cellsFrom (s.heap.objs.size + 1) fd.scope.names []).lookup x).isSome = true := fun x h => nR _ _ _ _ (by rw [f5]; exact h)
  refine codeAny_call_cells (by have := ha.depth; omega) (G.stays _ _ f1) f3 (X.nolimit.keeps G.stays) (f9.keeps G.stays) f4 (f10 vals hlv) f8 (fun p hp => ?_) (fun s₁ x => ?_) (by rw [f5]; exact o6) (by rw [f5]; exact o5) (by rw [f5]; exact o4)
  · have hm : p.1 ∈ ft.nms := List.mem_of_mem_take (List.of_mem_zip hp).1
    rw [f5]
    rcases o3 p.1 hm with h | h
    · exact .inl h
    · exact .inr ⟨h, by rw [← f5]; exact hcell p.1 h⟩
  generalize henv : callEnvC fd s.heap.objs.size (C.fnA f) = env at x ⊢
  have eL : env.locals = s.heap.objs.size := by rw [← henv]; rfl
  have eS : env.scope = ft.sc := by rw [← henv]; exact f5
  have eF : env.frame = some env.locals := by rw [← henv]; rfl
  have eC : env.cells = cellsFrom (s.heap.objs.size + 1) fd.scope.names [] := by rw [← henv]; rfl
  have eG : env.globals = mainGlobals := by rw [← henv]; exact f6
  have eB : env.builtins = builtinsNs := by rw [← henv]; exact f7
  obtain ⟨xin, xc, xa, xv⟩ := x
  obtain ⟨⟨h', tk, rfl⟩, xn, xk, xf⟩ := xin
  have frL : s.heap.get? env.locals = Option.none := by rw [eL]; exact Heap.fresh _
  have frC : ∀ n c, env.cells.lookup n = some c → s.heap.get? c = Option.none := fun n c e => by
    cases z : s.heap.get? c with
    | none => rfl
    | some ob =>
      have h1 := Heap.lt_size z
      have h2 := xv n c (mem_of_lookup e)
      exact absurd (Nat.lt_of_lt_of_le h1 xf) (Nat.not_lt.mpr (Nat.le_of_lt h2))
  have frX : ∀ b ∈ dL env, s.heap.get? b = Option.none := fun b m => by
    rcases List.mem_cons.mp m with m | m
    · rw [m]; exact frL
    · obtain ⟨p, hp, e⟩ := List.mem_map.mp m
      cases z : s.heap.get? b with
      | none => rfl
      | some ob =>
        have h1 := Heap.lt_size z
        have h2 := xv p.1 p.2 hp
        subst e
        exact absurd (Nat.lt_of_lt_of_le h1 xf) (Nat.not_lt.mpr (Nat.le_of_lt h2))
  have lvL : ∃ o, h'.get? env.locals = some o ∧ ∀ vs, o.data ≠ .fields vs := by
    obtain ⟨o, es, ep, ho, hd, _⟩ := xn
    exact ⟨o, ho, fun vs q => by rw [hd] at q; cases q⟩
  have g₁ : Good C (V.call env) σ ow { s with heap := h', toks := tk } := G.call_ (by rw [eS, o4]; decide) eF xk frL lvL fun n c e => ⟨frC n c e, by
    obtain ⟨o, z, _⟩ := xc n c e
    exact ⟨o, z⟩⟩
  have zg : Zg (Zs σ ow (zss V)) (Zs σ ow (zss (V.call env))) s.heap := fun b z => by
    rcases z with z | z
    · exact .inl (.inl z)
    · rcases Vo.call_mem z with z | z
      · rcases z with z | z
        · exact .inr (by rw [z]; exact frL)
        · obtain ⟨n, e⟩ := lB z
          exact .inr (frC n b e)
      · exact .inl (.inr z)
  have hFE : FEnv env ft.nms (V.call env) V.l := by
    refine ⟨rfl, by rw [eS]; exact o4, eF, List.mem_append_left _ List.mem_cons_self, fun y c hc => ⟨List.mem_append_left _ (List.mem_cons_of_mem _ (uy hc)), ?_⟩, fun y z c hy hz => name_of_addr xa (mem_of_lookup hy) (mem_of_lookup hz), o2, fun y hy => ?_⟩
    · have := xv y c (mem_of_lookup hc)
      exact Nat.ne_of_gt this
    · unfold Env.kindOf
      rw [eS]
      rcases o3 y hy with h | h
      · exact .inl h
      · exact .inr ⟨h, by
          have := hcell y h
          rw [← eC] at this
          exact Option.isSome_iff_exists.mp this⟩
  have nd : (((ft.nms.take fi.arity).zip vals).map (·.1)).Nodup := by
    rw [List.map_fst_zip (by rw [List.length_take]; omega)]
    exact o2.sublist (List.take_sublist _ _)
  have ha' : AOk (A.deeper env) (V.call env) d := ha.deeper env _ _
  have k₁ : SOk C (A.deeper env) fi.quiet env (V.call env) ft.nms (vs.map some ++ List.replicate (fi.nloc - fi.arity) Option.none) σ ow { s with heap := h', toks := tk } := by
    refine ⟨⟨g₁, ⟨by rw [eS]; exact o4, eG, eB, fun z => ?_, fun i v e => ?_⟩, ?_, lvL.imp fun o e => e.1⟩, ⟨_, xn⟩, fun y c hc => ⟨_, xc y c hc⟩⟩
    · obtain ⟨ob, y⟩ := G.live z
      rw [frL] at y; cases y
    · obtain ⟨y, u, ey, hm, ru⟩ := xg (nms := ft.nms) r hl o7 e
      refine ⟨y, u, ey, ru.kp (fun b o e _ => xk b o e) zg, ?_⟩
      have hy : y ∈ ft.nms := List.mem_of_getElem? ey
      rcases hFE.kinds y hy with h | ⟨h, c, hc⟩
      · exact .inl ⟨h, _, xn, uu _ _ nd hm h⟩
      · refine .inr ⟨c, .inl h, hc, ?_, fun z => ?_⟩
        · have := xc y c hc
          rw [uV _ _ nd hm (by rw [h]; decide)] at this
          exact this
        · obtain ⟨ob, w⟩ := G.live z
          rw [frC y c hc] at w; cases w
    · rcases hh with h | ⟨hq, e, o, vs, h1, h2, h3, h4, h5⟩
      · exact .inl h
      · exact .inr ⟨hq, e, o, vs, h1, xk _ _ h2, h3, h4, zg.not h2 h5⟩
  have toStp : ∀ σ' ow' s', SStp (dL env) (V.call env).fs (Own σ ow) (Own σ' ow') { s with heap := h', toks := tk } s' → Stp (frs V) (Own σ ow) (Own σ' ow') s s' := fun σ' ow' s' x => by
    have nC : ∀ b o, s.heap.get? b = some o → b ∉ V.fs → b ∉ (V.call env).fs := fun b o e n m => by
      rcases Vo.call_fs m with m | m | m
      · rw [m, frL] at e; cases e
      · obtain ⟨y, hy⟩ := lB m
        rw [frC y b hy] at e; cases e
      · exact n m
    refine ⟨fun b o e n m => x.keep b o (xk b o e) n (nC b o e m), fun b o e m => x.frm b o (xk b o e) (List.mem_append_right _ m) (fun w => by rw [frX b w] at e; cases e), x.grow, fun b z => (x.fresh b z).imp id fun w => ?_, x.gens, x.drawn, x.os⟩
    cases e : s.heap.get? b with
    | none => rfl
    | some o => have := xk b o e; have w' : h'.get? b = Option.none := w; rw [w'] at this; cases this
  have vrL : ∀ {σ' : St} {ow' : Nat → Option Nat} {h : Heap} {v : AV} {u : Value}, VR C (Zs σ' ow' (zss (V.call env))) h v u → VR C (Zs σ' ow' (zss V)) h v u := fun r => r.kp (fun _ _ e _ => e) fun b z => .inl (mj z)
  refine hB.snd (A.deeper env) env (V.call env) V.l hFE eS ha' _ σ ow _ _ _ _ _ w k₁ (fun fl af ρ' σ' ow' s' z st k' rf => ?_) (fun e c ρ' σ' ow' s' z st k' th => ?_)
  · cases rf with
    | next => exact kv _ _ σ' ow' s' z (toStp _ _ _ st) (k'.ok.good.left_ G.sub) .none
    | ret r' => exact kv _ _ σ' ow' s' z (toStp _ _ _ st) (k'.ok.good.left_ G.sub) (vrL r')
  · have t0 := th.1
    unfold leaving
    refine wpAny_bind (nH hFE ha'.frames g₁.stays st k' th fun s'' Tb st' k'' x nT nZ => ?_)
    refine dB hFE g₁.stays st' k'' ⟨t0.1, t0.2.1⟩ x nT nZ fun s₃ st₃ k₃ x₃ => ?_
    have up : ∀ b, h'.get? b = Option.none → s.heap.get? b = Option.none := fun b w => by
      cases e : s.heap.get? b with
      | none => rfl
      | some o => have := xk b o e; rw [w] at this; cases this
    exact kx e c σ' ow' s₃ z (toStp _ _ _ st₃) (k₃.ok.good.left_ G.sub) ⟨⟨up _ t0.1, fun w => t0.2.1 (mj w), t0.2.2⟩, _, x₃, fun T' fl' y => by cases y; exact ⟨rfl, up _ nT, fun w => nZ (mj w)⟩⟩
theorem yq (X : CxOk C T P) (hok : ∀ (f : Nat) (fi : FnI) (ft : FnT), P.fns[f]? = some fi → T.fts[f]? = some ft → okF fi ft = true)
    (hB : ∀ (F : Calls) (d : Nat), bZ C P d F → ∀ (f : Nat) (fi : FnI) (ft : FnT), P.fns[f]? = some fi → T.fts[f]? = some ft → BothB C d ft.sc ft.nms fi.quiet (fi.body F) ft.body) : ∀ d, bZ C P d (wpF P d) := by
  intro d
  induction d with
  | zero => exact fun f vs vals σ ow s Qa Ea R A V w => False.elim w
  | succ d ih =>
    intro f vs vals σ ow s Qa Ea R A V w G ha hh r kv kx
    obtain ⟨fi, hfi, hl, w⟩ := w
    obtain ⟨ft, h1, h2⟩ := X.fns f fi hfi
    have hq : qOf P f = fi.quiet := by unfold qOf; rw [hfi]; rfl
    rw [hq] at hh
    exact vJ X hfi h2 (hok f fi ft hfi h1) (hB _ d ih f fi ft hfi h1) hl w G ha hh r kv kx
end
end Ap
end
section
namespace Ap
open PySem PySem.W PySem.Calls PyProof.Rows
section
variable {prog : Program} {w : World} {A : Around} {E : Value → Shared → Prop} {s : Shared} {K : Frag} {x D : Addr} {ox : Obj} {odo : Option Obj}
theorem wm {a g : Value} {name : Str} (hc : (clsIn K D).isSome = true) (ha : findIn K (.ref D) name = some (some a)) (hg : specialIn K a "__get__" = some (some g)) (ht : takesIn K a = some true) : findObj K D odo name = some (.bind g a) := by
  obtain ⟨cd, hc⟩ := Option.isSome_iff_exists.mp hc
  unfold findObj
  rw [hc, Option.bind_some, ha, Option.bind_some]
  simp [hg, ht]
structure XFacts (K : Frag) (D : Addr) : Prop where
  ga : findIn K (.ref D) "__getattribute__" = some (some (.builtin "BaseException.__getattribute__"))
  gh : findIn K (.ref D) "__getattr__" = some Option.none
  ca : findIn K (.ref D) "__class__" = some (some (.builtin "object.__class__"))
  cg : specialIn K (.builtin "object.__class__") "__get__" = some (some (.builtin "getset_descriptor.__get__"))
  ct : takesIn K (.builtin "object.__class__") = some true
  mo : mroIn K D (.type "object") = some true
  mb : mroIn K D (.type "BaseException") = some true
  cl : (clsIn K D).isSome = true
theorem uI (XF : XFacts K D) {Q : Option Value → Shared → Prop} (X : K.In s.heap) (I : InstAt s.heap x ox D odo) (hS : Slot "ValueError" "__getattribute__" "BaseException.__getattribute__") (h : Q (some (.ref D)) { s with toks := s.toks + 1 }) : wpAny (model prog w) A (getAttr? (.ref x) "__class__") Q E s := by
  obtain ⟨hh, g, d, t, os⟩ := s
  have L0 := I.type (M := model prog w)
  have L1 := looks_findIn (M := model prog w) X XF.ga
  have L2 := looks_findIn (M := model prog w) X XF.gh
  have L3 := looks_find (M := model prog w) X I (wm (odo := odo) XF.cl XF.ca XF.cg XF.ct)
  have L4 := looks_mroIn (M := model prog w) X XF.mb
  have hk : builtinKind "BaseException.__getattribute__" = some .slot := by decide +kernel
  have hsplit : splitId "BaseException.__getattribute__" = some ("BaseException", "__getattribute__") := by decide +kernel
  have hb := hS.bind (.ref x)
  have hx2 : (Value.builtin "BaseException.__getattribute__" == Value.builtin "object.__getattribute__") = false := by decide +kernel
  unfold getAttr? getAttrBy? getAttrBy
  refine wpAny_bind (wpAny_mkText (wpAny_bind (wpAny_attempt (wpAny_holding (wpAny_bind (L0.at (wpAny_bind (L1.at ?_))))))))
  show wpAny _ _ (if (onTheHeap (Value.ref D) && Value.builtin "BaseException.__getattribute__" == Value.builtin "object.__getattribute__") = true then _ else _) _ _ _
  rw [hx2, Bool.and_false, if_neg (by decide)]
  unfold getAttrByItsOwn hookBefore
  refine wpAny_bind ?_
  show wpAny _ _ (typeLookup (.ref D) "__getattr__") _ _ _
  refine L2.at ?_
  refine wpAny_bind (wpAny_attempt (wpAny_holding ?_))
  unfold callGetattribute boundAndCalled
  rw [Bool.false_and, if_neg (by decide), hb]
  refine wpAny_bind (wpAny_pure ?_)
  show wpAny _ _ (call (.builtin "BaseException.__getattribute__") [.ref x, .str "__class__" t]) _ _ _
  have ha := F.args_bexc_ga (.ref x) (.str "__class__" t)
  refine wpAny_call (codeAny_call_builtin hS.plain F.entry_bexc_ga ?_)
  simp only [checkBuiltinCall, hk, hsplit]
  refine wpAny_bind ?_
  unfold isInstance
  refine wpAny_bind (L0.at (L4.at ?_))
  rw [if_neg (by decide)]
  refine wpAny_of_eq (a := ()) ha ?_
  unfold Builtin.«object.__getattribute__» slotArgs
  refine wpAny_bind (wpAny_pure ?_)
  refine wpAny_bind (wpAny_pure ?_)
  refine wpAny_bind (L0.at (wpAny_bind (L3.at ?_)))
  show wpAny _ _ (Builtin.ObjectAttr.bindTo _ _ _ _) _ _ _
  unfold Builtin.ObjectAttr.bindTo
  refine wpAny_bind (wpAny_holding (wpAny_call (class_get (s := ⟨hh, g, d, t + 1, os⟩) X I XF.mo ?_)))
  refine wpAny_pure ?_
  refine handed_on rfl ?_
  exact wpAny_pure h
end
section
noncomputable def oK (K : Frag) (a : Addr) : Obj := (K.lookup a).getD default
noncomputable def cdK (K : Frag) (a : Addr) : ClassData := match (oK K a).data with | .cls cd => cd | _ => default
noncomputable def fdK (K : Frag) (a : Addr) : FuncData := match (oK K a).data with | .func fd => fd | _ => default
noncomputable def esK (K : Frag) (a : Addr) : Array DictEntry := match (oK K a).data with | .dict es _ => es | _ => #[]
noncomputable def epK (K : Frag) (a : Addr) : Nat := match (oK K a).data with | .dict _ ep => ep | _ => 0
noncomputable def fsK (K : Frag) (a : Addr) : Array Value := match (oK K a).data with | .fields vs => vs | _ => #[]
noncomputable def slK (K : Frag) (a : Addr) (i : Nat) : Option Value := ((oK K a).slots.toList[i]?).getD Option.none
noncomputable def adK : Value → Addr | .ref a => a | _ => 0
noncomputable def tkK : Value → Tok | .str _ t => t | _ => 0
noncomputable def isS : Value → Bool | .str _ _ => true | _ => false
theorem AB {v : Value} (h : isS v = true) : ∃ n t, v = .str n t := by
  cases v <;> first | exact ⟨_, _, rfl⟩ | cases h
structure NsD (K : Frag) (N : Addr) : Prop where
  at_ : K.lookup N = some { oK K N with data := .dict (esK K N) (epK K N) }
  keys : ((esK K N).toList.all fun e => isS e.key) = true
theorem NsD.ns {K : Frag} {h : Heap} {N : Addr} (X : K.In h) (e : NsD K N) : h.Ns N (nsFind (esK K N)) :=
  ⟨_, _, _, X _ _ e.at_, rfl, fun x hx => AB (List.all_eq_true.mp e.keys x (Array.mem_toList_iff.mpr hx)), fun _ => rfl⟩
theorem um {h : Heap} {N : Addr} {m m' : Str → Option Value} (a : h.Ns N m) (b : h.Ns N m') (x : Str) : m x = m' x := by
  obtain ⟨o1, es1, ep1, a1, a2, _, a3⟩ := a
  obtain ⟨o2, es2, ep2, b1, b2, _, b3⟩ := b
  rw [a1] at b1
  cases b1
  rw [a2] at b2
  cases b2
  rw [← a3, b3]
structure ClsK (K : Frag) (T : Tabs) (fa : List Addr) (a : Addr) (ci : ClsI) : Prop where
  at_ : K.lookup a = some (excClassObj (cdK K a).name (cdK K a).qualname a (cdK K a).ns (cdK K a).bases [.type "object"] true (cdK K a).slotNames (cdK K a).subclasses false (cdK K a).collection (oK K a).dict (slK K a 0) (slK K a 1) (slK K a 2) (slK K a 3) (slK K a 5) "object.__new__")
  ns : NsD K (cdK K a).ns
  ga : nsFind (esK K (cdK K a).ns) "__getattribute__" = Option.none
  gt : nsFind (esK K (cdK K a).ns) "__getattr__" = Option.none
  sa : nsFind (esK K (cdK K a).ns) "__setattr__" = Option.none
  ini : ∀ f, ci.init = some f → nsFind (esK K (cdK K a).ns) "__init__" = some (.ref (fa.getD f 0))
  ms : (ci.meths.all fun p => nsFind (esK K (cdK K a).ns) (T.atN.getD p.1 Str.empty) == some (.ref (fa.getD p.2 0))) = true
  no : ((List.range T.atN.length).all fun k => (ci.meths.lookup k).isSome || nsFind (esK K (cdK K a).ns) (T.atN.getD k Str.empty) == Option.none) = true
theorem sJ {α β : Type} [BEq α] [LawfulBEq α] {a : α} {b : β} : ∀ {l : List (α × β)}, l.lookup a = some b → (a, b) ∈ l := by
  intro l
  induction l with
  | nil => intro h; cases h
  | cons p r ih =>
    obtain ⟨k, v⟩ := p
    intro h
    rw [List.lookup_cons] at h
    cases hb : a == k with
    | true => rw [hb] at h; cases h; rw [beq_iff_eq.mp hb]; exact List.mem_cons_self
    | false => rw [hb] at h; exact List.mem_cons_of_mem _ (ih h)
noncomputable def veM : List Value := [.type "ValueError", .type "Exception", .type "BaseException", .type "object"]
noncomputable def xfK (K : Frag) (D : Addr) : Bool :=
  findIn K (.ref D) "__getattribute__" == some (some (.builtin "BaseException.__getattribute__")) && findIn K (.ref D) "__getattr__" == some Option.none && findIn K (.ref D) "__class__" == some (some (.builtin "object.__class__")) &&
  specialIn K (.builtin "object.__class__") "__get__" == some (some (.builtin "getset_descriptor.__get__")) && takesIn K (.builtin "object.__class__") == some true && mroIn K D (.type "object") == some true && mroIn K D (.type "BaseException") == some true && (clsIn K D).isSome
theorem wp {K : Frag} {D : Addr} (h : xfK K D = true) : XFacts K D := by
  unfold xfK at h
  simp only [Bool.and_eq_true, beq_iff_eq] at h
  obtain ⟨⟨⟨⟨⟨⟨⟨h1, h2⟩, h3⟩, h4⟩, h5⟩, h6⟩, h7⟩, h8⟩ := h
  exact ⟨h1, h2, h3, h4, h5, h6, h7, h8⟩
structure ExcK (K : Frag) (a : Addr) : Prop where
  at_ : K.lookup a = some (excClassObj (cdK K a).name (cdK K a).qualname a (cdK K a).ns (cdK K a).bases (cdK K a).mro.tail (cdK K a).hasDict (cdK K a).slotNames (cdK K a).subclasses (cdK K a).abstract (cdK K a).collection (oK K a).dict (slK K a 0) (slK K a 1) (slK K a 2) (slK K a 3) (slK K a 5) "ValueError.__new__")
  ns : NsD K (cdK K a).ns
  ini : nsFind (esK K (cdK K a).ns) "__init__" = Option.none
  tail : (cdK K a).mro.tail = veM ∨ ∃ p, (cdK K a).mro.tail = .ref p :: veM ∧ K.lookup p = some { oK K p with data := .cls (cdK K p) } ∧ NsD K (cdK K p).ns ∧ nsFind (esK K (cdK K p).ns) "__init__" = Option.none
  be : (cdK K a).mro.tail.contains (.type "BaseException") = true
  xf : xfK K a = true
  kv : kitOne K (.ref a) (.type "ValueError") = some true
theorem ExcK.at' {C : Cx} {K : Frag} {c : Nat} (X : K.In C.base) (h : ExcK K (C.clsA c)) : ExcAt C c := by
  refine ⟨⟨_, _, _, _, _, veM, _, _, _, _, _, _, _, _, _, _, _, "ValueError", "ValueError.__new__", "ValueError.__init__", _, X _ _ h.at_, h.ns.ns X, h.ini, ?_, PySem.F.excBase_ValueError, h.be⟩⟩
  rcases h.tail with e | ⟨p, e, p1, p2, p3⟩
  · rw [e]; exact .base
  · rw [e]; exact .own (X _ _ p1) (p2.ns X) p3 .base
theorem wM {K : Frag} {x D : Addr} {ox : Obj} (XF : XFacts K D) : KitX K (.ref x) (.ref D) (fun h => InstAt h x ox D Option.none) where
  ty := fun _ _ _ I => I.type
  it := fun _ _ X _ => by
    obtain ⟨cdD, hcD⟩ := Option.isSome_iff_exists.mp XF.cl
    unfold clsIn at hcD
    split at hcD
    · rename_i c' d' cd' sl' ho
      intro A' Q' E' s' k q
      unfold isType loadHead
      exact wpAny_bind (wpAny_loadPart (k _ _ (X _ _ ho)) (wpAny_pure q))
    · cases hcD
  ne := fun h tp dd its n sl X htp => by
    obtain ⟨cdD, hcD⟩ := Option.isSome_iff_exists.mp XF.cl
    refine Bool.eq_false_iff.mpr fun q => ?_
    have e : D = tp := Value.ref.inj (beq_iff_eq.mp q)
    subst e
    unfold clsIn at hcD
    split at hcD
    · rename_i c' d' cd' sl' ho
      have z := (X _ _ ho).symm.trans htp
      cases z
    · cases hcD
  ca := fun X I k => uI XF X I PySem.F.attr_ValueError.ga k
theorem ug {h : Heap} {e D : Addr} {o : Obj} {vs : Array Value} (h1 : h.get? e = some o) (h2 : o.cls = .ref D) (h3 : o.data = .fields vs) (h4 : o.dict = Option.none) : InstAt h e o D Option.none :=
  ⟨h1, h2, by unfold notCls; rw [h3], by rw [h4]; trivial⟩
theorem ud {C : Cx} {K : Frag} {c : Nat} {t : Value} {b : Bool} (X : K.In C.base) (XF : XFacts K (C.clsA c)) (e : kitOne K (.ref (C.clsA c)) t = some b) : zX C c t b :=
  fun A Q E s e' o vs st h1 h2 h3 h4 h => kia_one (wM XF) (X.keeps st) (ug h1 h2 h3 h4) e (by intro q; cases q) h
theorem ye {C : Cx} {K : Frag} {c d : Nat} {b : Bool} (X : K.In C.base) (e : exmOne K (.ref (C.clsA c)) (.ref (C.clsA d)) = some b) : Cm C c d b :=
  fun A Q E s e' o vs st h1 h2 h3 h4 h => (exm_one (X.keeps st) (ug h1 h2 h3 h4).type e).here h
structure FnK (K : Frag) (a : Addr) (fi : FnI) (ft : FnT) : Prop where
  at_ : K.lookup a = some { oK K a with cls := .type "function", data := .func (fdK K a) }
  body : (fdK K a).body = .stmts ft.body
  scope : (fdK K a).scope = ft.sc
  globals : (fdK K a).globals = mainGlobals
  builtins : (fdK K a).builtins = builtinsNs
  closure : (fdK K a).closure = []
  cref : (fdK K a).code = .ref (adK (fdK K a).code)
  cobj : K.lookup (adK (fdK K a).code) = some { oK K (adK (fdK K a).code) with data := .fields (fsK K (adK (fdK K a).code)) }
  cnam : (fsK K (adK (fdK K a).code))[1]? = some (.str (fdK K a).qualname (tkK (((fsK K (adK (fdK K a).code))[1]?).getD .none)))
  bind : ∀ vals : List Value, vals.length = fi.arity → bindArgs (fdK K a) ⟨vals, []⟩ = pure ((ft.nms.take fi.arity).zip vals)
theorem cY {fd : FuncData} {r : List Value → List (Str × Value)} (h : ∀ a, bindArgs fd ⟨[a], []⟩ = pure (r [a])) (vals : List Value) (hl : vals.length = 1) : bindArgs fd ⟨vals, []⟩ = pure (r vals) := by
  obtain ⟨a, rfl⟩ := List.length_eq_one_iff.mp hl
  exact h a
theorem df {n : Nat} {vals : List Value} (hl : vals.length = n + 1) : ∃ a r, vals = a :: r ∧ r.length = n := by
  cases vals with
  | nil => cases hl
  | cons a r => exact ⟨a, r, rfl, Nat.succ.inj hl⟩
theorem jd {fd : FuncData} {r : List Value → List (Str × Value)} (h : ∀ a b, bindArgs fd ⟨[a, b], []⟩ = pure (r [a, b])) (vals : List Value) (hl : vals.length = 2) : bindArgs fd ⟨vals, []⟩ = pure (r vals) := by
  obtain ⟨a, v1, rfl, h1⟩ := df hl
  obtain ⟨b, rfl⟩ := List.length_eq_one_iff.mp h1
  exact h a b
theorem qz {fd : FuncData} {r : List Value → List (Str × Value)} (h : ∀ a b c, bindArgs fd ⟨[a, b, c], []⟩ = pure (r [a, b, c])) (vals : List Value) (hl : vals.length = 3) : bindArgs fd ⟨vals, []⟩ = pure (r vals) := by
  obtain ⟨a, v1, rfl, h1⟩ := df hl
  obtain ⟨b, v2, rfl, h2⟩ := df h1
  obtain ⟨c, rfl⟩ := List.length_eq_one_iff.mp h2
  exact h a b c
theorem wN {fd : FuncData} {r : List Value → List (Str × Value)} (h : ∀ a b c d, bindArgs fd ⟨[a, b, c, d], []⟩ = pure (r [a, b, c, d])) (vals : List Value) (hl : vals.length = 4) : bindArgs fd ⟨vals, []⟩ = pure (r vals) := by
  obtain ⟨a, v1, rfl, h1⟩ := df hl
  obtain ⟨b, v2, rfl, h2⟩ := df h1
  obtain ⟨c, v3, rfl, h3⟩ := df h2
  obtain ⟨d, rfl⟩ := List.length_eq_one_iff.mp h3
  exact h a b c d
structure KDat (K : Frag) (T : Tabs) (P : Prg) (fa ca : List Addr) : Prop where
  g : NsD K mainGlobals
  fnN : (T.fnN.zipIdx.all fun p => p.1 == Str.empty || nsFind (esK K mainGlobals) p.1 == some (.ref (fa.getD p.2 0))) = true
  clsN : (T.clsN.zipIdx.all fun p => nsFind (esK K mainGlobals) p.1 == some (.ref (ca.getD p.2 0))) = true
  bltN : (T.bltN.all fun x => nsFind (esK K mainGlobals) x == Option.none) = true
  inj : T.atN.Nodup
  ne : Str.empty ∉ T.atN
  objN : (T.atN.all fun x => fastLookup "object" x == some Option.none) = true
  lens : fa.length = P.fns.length ∧ T.fnN.length = P.fns.length ∧ ca.length = P.cls.length ∧ T.fts.length = P.fns.length
  ics : ∀ c ci, P.cls[c]? = some ci → ci.init ≠ Option.none → ClsK K T fa (ca.getD c 0) ci
  xcs : ∀ c ci, P.cls[c]? = some ci → ci.init = Option.none → ExcK K (ca.getD c 0)
  xps : ((P.cls.zip ca).all fun p => p.1.init.isSome || (P.cls.zip ca).zipIdx.all fun q => q.1.1.init.isSome || (kitOne K (.ref p.2) (.ref q.1.2) == some (p.1.sups.contains q.2) && exmOne K (.ref p.2) (.ref q.1.2) == some (p.1.sups.contains q.2))) = true
  fns : ∀ f fi ft, P.fns[f]? = some fi → T.fts[f]? = some ft → FnK K (fa.getD f 0) fi ft
  sh : ((P.fns.zip T.fts).all fun p => okF p.1 p.2) = true
noncomputable def uE (P : Prg) (b : Bool) (c : Nat) : Bool := match P.cls[c]? with | some ci => ci.init.isSome == b | Option.none => false
theorem tH {P : Prg} {b : Bool} {c : Nat} (h : uE P b c = true) : ∃ ci, P.cls[c]? = some ci ∧ ci.init.isSome = b := by
  unfold uE at h
  cases e : P.cls[c]? with
  | none => rw [e] at h; cases h
  | some ci => rw [e] at h; exact ⟨ci, rfl, beq_iff_eq.mp h⟩
theorem tU {P : Prg} {b : Bool} {c : Nat} {ci : ClsI} (h : P.cls[c]? = some ci) (h' : ci.init.isSome = b) : c ∈ (List.range P.cls.length).filter (uE P b) := by
  refine List.mem_filter.mpr ⟨List.mem_range.mpr (List.getElem?_eq_some_iff.mp h).1, ?_⟩
  unfold uE
  rw [h]
  exact beq_iff_eq.mpr h'
noncomputable def nM (prog : Program) (w : World) (h : Heap) (mg mb : Str → Option Value) (T : Tabs) (P : Prg) (fa ca : List Addr) : Cx where
  prog := prog
  w := w
  base := h
  clsA := fun c => ca.getD c 0
  fnA := fun f => fa.getD f 0
  nm := fun k => T.atN.getD k Str.empty
  mg := mg
  mb := mb
  ics := (List.range P.cls.length).filter (uE P true)
  xcs := (List.range P.cls.length).filter (uE P false)
theorem tJ {α β : Type} {l : List α} {r : List β} {i : Nat} {a : α} {b : β} (h1 : l[i]? = some a) (h2 : r[i]? = some b) : (a, b) ∈ l.zip r :=
  List.mem_of_getElem? (i := i) (List.getElem?_zip_eq_some.mpr ⟨h1, h2⟩)
theorem ui {l : List Nat} {i d : Nat} (h : i < l.length) : l[i]? = some (l.getD i d) := by
  rw [List.getD_eq_getElem?_getD, List.getElem?_eq_getElem h]; rfl
theorem xW {K : Frag} {T : Tabs} {P : Prg} {fa ca : List Addr} {prog : Program} {w : World} {h : Heap} {mg mb : Str → Option Value} (X : K.In h) (g : h.Ns mainGlobals mg) (b : h.Ns builtinsNs mb) (nl : h.NoLimit)
    (bt : ∀ x : Str, x ≠ "__name__" → mb x = bootBuiltins x) (D : KDat K T P fa ca) : CxOk (nM prog w h mg mb T P fa ca) T P := by
  obtain ⟨l1, l2, l3, l4⟩ := D.lens
  have gv : ∀ x r, nsFind (esK K mainGlobals) x = r → mg x = r := fun x r e => (um g (D.g.ns X) x).trans e
  have xc : ∀ c ∈ (nM prog w h mg mb T P fa ca).xcs, ∃ ci, P.cls[c]? = some ci ∧ ci.init = Option.none := fun c hc => by
    obtain ⟨ci, h1, h2⟩ := tH (List.mem_filter.mp hc).2
    refine ⟨ci, h1, ?_⟩
    cases e : ci.init with
    | none => rfl
    | some f => rw [e] at h2; cases h2
  have xp : ∀ c ∈ (nM prog w h mg mb T P fa ca).xcs, ∀ d ∈ (nM prog w h mg mb T P fa ca).xcs, ∀ ci, P.cls[c]? = some ci → kitOne K (.ref (ca.getD c 0)) (.ref (ca.getD d 0)) = some (ci.sups.contains d) ∧ exmOne K (.ref (ca.getD c 0)) (.ref (ca.getD d 0)) = some (ci.sups.contains d) := fun c hc d hd ci hci => by
    obtain ⟨ci', y1, y2⟩ := xc c hc
    rw [hci] at y1
    cases y1
    obtain ⟨cj, z1, z2⟩ := xc d hd
    have lc : c < ca.length := by rw [l3]; exact (List.getElem?_eq_some_iff.mp hci).1
    have ld : d < ca.length := by rw [l3]; exact (List.getElem?_eq_some_iff.mp z1).1
    have := List.all_eq_true.mp D.xps _ (tJ hci (ui (d := 0) lc))
    rw [y2, Option.isSome_none, Bool.false_or] at this
    have hz : ((cj, ca.getD d 0), d) ∈ (P.cls.zip ca).zipIdx := List.mem_zipIdx_iff_getElem?.mpr (List.getElem?_zip_eq_some.mpr ⟨z1, ui ld⟩)
    have := List.all_eq_true.mp this _ hz
    rw [z2, Option.isSome_none, Bool.false_or, Bool.and_eq_true, beq_iff_eq, beq_iff_eq] at this
    exact this
  refine
  { g := g, b := b, nolimit := nl, builtins := bt
    fnN := fun f x e ne => ?_, clsN := fun c x e => ?_, bltN := fun x hx => ?_, nm := fun _ => rfl, inj := D.inj, ne := D.ne, objN := fun x hx => ?_, fnF := fun f hf => ?_,
    cls := fun c hc => ?_, ics := fun c ci hc hi => ?_, xcs := fun c ci hc hi => ?_, isiC := fun c hc d hd ci hci => ?_, isiV := fun c hc => ?_, exm := fun c hc d hd ci hci => ?_, exc := fun c hc => ?_, fns := fun f fi hf => ?_ }
  · have := List.all_eq_true.mp D.fnN (x, f) (List.mem_zipIdx_iff_getElem?.mpr e)
    rw [Bool.or_eq_true, beq_iff_eq, beq_iff_eq] at this
    exact gv _ _ (this.resolve_left ne)
  · have := List.all_eq_true.mp D.clsN (x, c) (List.mem_zipIdx_iff_getElem?.mpr e)
    rw [beq_iff_eq] at this
    exact gv _ _ this
  · have := List.all_eq_true.mp D.bltN x hx
    rw [beq_iff_eq] at this
    exact gv _ _ this
  · have := List.all_eq_true.mp D.objN x hx
    rw [beq_iff_eq] at this
    rw [typeLookup_type, builtinLookup_eq_fast, this]
  · have hp : f < P.fns.length := by omega
    exact ⟨_, _, X _ _ (D.fns f _ _ (List.getElem?_eq_getElem hp) (List.getElem?_eq_getElem (by omega))).at_, rfl, rfl⟩
  · obtain ⟨ci, h1, h2⟩ := tH (List.mem_filter.mp hc).2
    have k := D.ics c ci h1 (fun e => by rw [e] at h2; cases h2)
    refine ⟨ci, h1, ⟨⟨_, _, _, _, _, _, _, _, _, _, _, _, _, _, X _ _ k.at_, k.ns.ns X, k.ga, k.gt, k.sa, k.ini, fun m f hm => ?_, fun m hm hl => ?_⟩⟩⟩
    · exact beq_iff_eq.mp (List.all_eq_true.mp k.ms (m, f) (sJ hm))
    · have := List.all_eq_true.mp k.no m (List.mem_range.mpr hl)
      rw [hm, Option.isSome_none, Bool.false_or] at this
      exact beq_iff_eq.mp this
  · refine tU hc ?_
    cases z : ci.init with
    | none => exact absurd z hi
    | some f => rfl
  · refine tU hc ?_
    rw [hi]; rfl
  · obtain ⟨ci', y1, y2⟩ := xc c hc
    exact ud X (wp (D.xcs c ci' y1 y2).xf) (xp c hc d hd ci hci).1
  · obtain ⟨ci', y1, y2⟩ := xc c hc
    exact ud X (wp (D.xcs c ci' y1 y2).xf) (D.xcs c ci' y1 y2).kv
  · exact ye X (xp c hc d hd ci hci).2
  · obtain ⟨ci', y1, y2⟩ := xc c hc
    exact (D.xcs c ci' y1 y2).at' X
  · have hp := (List.getElem?_eq_some_iff.mp hf).1
    have ht : T.fts[f]? = some T.fts[f] := List.getElem?_eq_getElem (by omega)
    have k := D.fns f fi _ hf ht
    exact ⟨_, ht, ⟨⟨_, _, X _ _ k.at_, rfl, rfl, k.body, k.scope, k.globals, k.builtins, k.closure, ⟨_, _, _, _, k.cref, X _ _ k.cobj, rfl, k.cnam⟩, k.bind⟩⟩⟩
theorem qO {P : Params} {h : Heap} {C : Cx} {Z : Nat → Prop} : ∀ {ns : List Int} {vs : List Value}, WellAll P h vs (ns.map fun n => WData.int n) → VRs C Z h (ns.map .int) vs
  | [], _, x => by cases x; exact .nil
  | n :: ns, _, x => by
    cases x with
    | cons hd tl => cases hd; exact .cons (.int _ _) (qO tl)
theorem uW (ns : List Int) : ofPy (.list (ns.map .int)) = .list (ns.map fun n => WData.int n) := by
  have h : ∀ l : List Int, ofPys (l.map .int) = l.map fun n => WData.int n := fun l => by
    induction l with
    | nil => rfl
    | cons n l ih =>
      show ofPy (.int n) :: ofPys (l.map .int) = _
      rw [ih]; rfl
  show WData.list (ofPys (ns.map .int)) = _
  rw [h]
noncomputable def cy (l : List Stmt) (i : Nat) : List Stmt := match l[i]? with | some (.FunctionDef _ _ body _ _ _ _ _ _ _) => body | _ => []
noncomputable def cA (l : List Stmt) (i : Nat) : Scope := match l[i]? with | some (.FunctionDef _ _ _ _ _ _ sc _ _ _) => sc | _ => default
noncomputable def bc (l : List Stmt) (i : Nat) : List Stmt := match l[i]? with | some (.ClassDef _ _ _ body _ _ _ _ _ _ _) => body | _ => []
theorem wk : bootBuiltins (Str.ofString "int") = some (tyV .int) := by decide +kernel
theorem uX : bootBuiltins (Str.ofString "bool") = some (tyV .bool) := by decide +kernel
theorem mu : bootBuiltins (Str.ofString "tuple") = some (tyV .tuple) := by decide +kernel
theorem tZ {C : Cx} : BiOk C true (Str.ofString "len") vU := ⟨⟨_, by decide +kernel, .inl ⟨_, rfl⟩, AF⟩⟩
theorem wc {C : Cx} : BiOk C false (Str.ofString "min") tA := ⟨⟨_, by decide +kernel, .inl ⟨_, rfl⟩, yL⟩⟩
theorem mU {C : Cx} : BiOk C false (Str.ofString "max") mJ := ⟨⟨_, by decide +kernel, .inl ⟨_, rfl⟩, xT⟩⟩
theorem qW {C : Cx} : BiOk C true (Str.ofString "int") oM := ⟨⟨_, by decide +kernel, .inr ⟨_, rfl⟩, wZ⟩⟩
noncomputable def AllI {α : Type} (P : Nat → α → Prop) : Nat → List α → Prop
  | _, [] => True
  | n, x :: r => P n x ∧ AllI P (n + 1) r
theorem AllI.get {α : Type} {P : Nat → α → Prop} : ∀ {l : List α} {n : Nat}, AllI P n l → ∀ i x, l[i]? = some x → P (n + i) x := by
  intro l
  induction l with
  | nil => intro n h i x e; cases e
  | cons y r ih =>
    intro n h i x e
    cases i with
    | zero => cases e; exact h.1
    | succ i => have := ih h.2 i x e; rw [show n + 1 + i = n + (i + 1) by omega] at this; exact this
theorem AllI.at0 {α : Type} {P : Nat → α → Prop} {l : List α} (h : AllI P 0 l) (i : Nat) (x : α) (e : l[i]? = some x) : P i x := by
  have := h.get i x e
  rwa [Nat.zero_add] at this
end
end Ap
end
section
namespace Ap
open PySem
section
variable {F : Calls} {ρ : Loc} {σ : St} {Q : PQ} {E : PE} {QQ : QS} {EE : ES} {RL : List AV → St → Prop} {RB : Bool → St → Prop} {K : Bool → Prop} {a b c e : WE} {es : WL} {r : WBl} {cc : AV → WBl} {u v : AV} {vs xs ys : List AV} {i j x y : Int} {s t : Str} {n m f : Nat} {o : O2} {p : O1} {g : ON} {k : OC} {z w : Bool} {A B : WS} {H : WH}
theorem aj (σ : St) (a : Nat) (o : AObj) : upd σ a o a = some o := if_pos rfl
theorem ag (σ : St) {a b : Nat} (o : AObj) (h : b ≠ a) : upd σ a o b = σ b := if_neg h
theorem aY {P : Prg} {d : Nat} {fi : FnI} (h : P.fns[f]? = some fi) (hl : vs.length = fi.arity) (hb : fi.body (wpF P d) (vs.map some ++ List.replicate (fi.nloc - fi.arity) Option.none) σ (kFn Q) (eFn E)) : wpF P (d + 1) f vs σ Q E := ⟨fi, h, hl, hb⟩
theorem vf {G : St → Prop} {B : AV → Loc → St → QS → Prop} (I : Loc → St → Prop) : ∀ (xs : List AV),
    (∀ x ∈ xs, ∀ ρ σ R, I ρ σ → (∀ ρ' σ', I ρ' σ' → R .next ρ' σ') → G σ ∧ B x ρ σ R) → (∀ ρ σ, I ρ σ → G σ ∧ QQ .next ρ σ) → ∀ ρ σ, I ρ σ → forL G B xs ρ σ QQ := by
  intro xs
  induction xs with
  | nil => intro _ h2 ρ σ hi; exact h2 ρ σ hi
  | cons x xs ih => intro h1 h2 ρ σ hi; exact h1 x List.mem_cons_self ρ σ _ hi fun ρ' σ' hi' => ih (fun y hy => h1 y (List.mem_cons_of_mem _ hy)) h2 ρ' σ' hi'
theorem aB : kn Q σ (some v) = Q v σ := rfl
theorem e_c : vC v ρ σ Q E = Q v σ := rfl
theorem am : ao ρ σ RL E = RL [] σ := rfl
theorem an : ac e es ρ σ RL E = e ρ σ (Av es ρ RL E) E := rfl
theorem ak : Av es ρ RL E v σ = es ρ σ (AG v RL) E := rfl
theorem al : AG v RL vs σ = RL (v :: vs) σ := rfl
theorem cX : dj es ρ σ Q E = es ρ σ (zP Q) E := rfl
theorem cn : zP Q vs σ = Q (.tup vs) σ := rfl
theorem eW : ee z es ρ σ Q E = es ρ σ (wV z Q) E := rfl
theorem fx : wV false Q vs σ = Q (.ilist vs) σ := rfl
theorem aU : vO2 o a b ρ σ Q E = a ρ σ (kO1 o b ρ Q E) E := rfl
theorem aw : kO1 o b ρ Q E v σ = b ρ σ (kO2 o v Q) E := rfl
theorem az : kO2 o u Q v σ = o u v σ Q := rfl
theorem bJ : vO1 p a ρ σ Q E = a ρ σ (kU p Q) E := rfl
theorem bF : kU p Q v σ = p v σ Q := rfl
theorem dF : vON g es ρ σ Q E = es ρ σ (kN g Q) E := rfl
theorem dH : kN g Q vs σ = g vs σ Q := rfl
theorem dc : dY (.bool z) σ Q = Q (.bool (!z)) σ := rfl
theorem ja : vBl r ρ σ Q E = r ρ σ (qL Q) E := rfl
theorem ar : qL Q z σ = Q (.bool z) σ := rfl
theorem eY : cU z ρ σ RB E = RB z σ := rfl
theorem bq : aX z e r ρ σ RB E = e ρ σ (onT (kBl z r ρ RB E)) E := rfl
theorem aK : onT RB (.bool z) σ = RB z σ := rfl
theorem cv : kBl z r ρ RB E w σ = uC r ρ RB E w (w == z) σ := rfl
theorem ce : uC r ρ RB E z true σ = r ρ σ RB E := rfl
theorem cM : uC r ρ RB E z false σ = RB z σ := rfl
theorem mm : uC (cU true) ρ RB E z z σ = RB z σ := by cases z <;> rfl
theorem wQ : uC (cU false) ρ RB E z (!z) σ = RB z σ := by cases z <;> rfl
theorem bC : bK a cc ρ σ Q E = a ρ σ (zN cc ρ Q E) E := rfl
theorem aP : zN cc ρ Q E v σ = cc v ρ σ (qL Q) E := rfl
theorem iK : bH v ρ σ RB E = RB true σ := rfl
theorem aD : aM k e cc v ρ σ RB E = e ρ σ (Aq v k cc ρ RB E) E := rfl
theorem aO : Aq v k cc ρ RB E u σ = k v u σ (uF u cc ρ RB E σ) := rfl
theorem bL : uF u bH ρ RB E σ z = RB z σ := by cases z <;> rfl
theorem bX : uF u cc ρ RB E σ false = RB false σ := rfl
theorem dZ : uF u cc ρ RB E σ true = cc u ρ σ RB E := rfl
theorem bj : aT F f es ρ σ Q E = es ρ σ (uZ F f Q E) E := rfl
theorem aH : uZ F f Q E vs σ = F f vs σ Q E := rfl
theorem ou : nQ F n f es ρ σ Q E = es ρ σ (zW F n f Q E) E := rfl
theorem lj : zW F n f Q E vs σ = ∀ a, σ a = Option.none → F f (.obj a :: vs) (upd σ a (.inst n [])) (tW a Q) E := rfl
theorem iT : tW n Q .none σ = Q (.obj n) σ := rfl
theorem bg : bd F n m f e es ρ σ Q E = e ρ σ (wa F n m f es ρ Q E) E := rfl
theorem aC : rm F f n Q E vs σ = F f (.obj n :: vs) σ Q E := rfl
theorem aW : au n e ρ σ QQ EE = e ρ σ (Ax n ρ QQ) (kE EE ρ) := rfl
theorem bQ : Ax n ρ QQ v σ = QQ .next (setL ρ n v) σ := rfl
theorem Am : kE EE ρ n σ = EE n ρ σ := rfl
theorem bf : aL a n f e ρ σ QQ EE = e ρ σ (zS a n f ρ QQ EE) (kE EE ρ) := rfl
theorem cf : zS a n f ρ QQ EE v σ = a ρ σ (Ac n f v ρ QQ) (kE EE ρ) := rfl
theorem cP : dz e ρ σ QQ EE = e ρ σ (zE ρ QQ) (kE EE ρ) := rfl
theorem da : zE ρ QQ v σ = QQ .next ρ σ := rfl
theorem bz : bI e ρ σ QQ EE = e ρ σ (AN ρ QQ) (kE EE ρ) := rfl
theorem aJ : AN ρ QQ v σ = QQ (.ret v) ρ σ := rfl
theorem bD : bP c A B ρ σ QQ EE = c ρ σ (onT (brS A B ρ QQ EE)) (kE EE ρ) := rfl
theorem co : brS A B ρ QQ EE true σ = A ρ σ QQ EE := rfl
theorem aR : brS A B ρ QQ EE false σ = B ρ σ QQ EE := rfl
theorem AJ : jh n ρ σ QQ EE = EE n ρ σ := rfl
theorem Bk : AA A H ρ σ QQ EE = A ρ σ QQ (Ad H QQ EE) := rfl
theorem sp : Ad H QQ EE n ρ σ = H n ρ σ QQ EE := rfl
theorem yW : vQ n e A ρ σ QQ EE = e ρ σ (yp n A ρ QQ EE) (kE EE ρ) := rfl
theorem mz : pd n A EE v ρ σ QQ = A (setL ρ n v) σ QQ EE := rfl
theorem aS : ap ρ σ QQ EE = QQ .next ρ σ := rfl
theorem ae : ad A B ρ σ QQ EE = A ρ σ (vZ B QQ EE) EE := rfl
theorem ai : vZ A QQ EE .next ρ σ = A ρ σ QQ EE := rfl
theorem aA : vZ A QQ EE (.ret v) ρ σ = QQ (.ret v) ρ σ := rfl
theorem ij : kFn Q .next ρ σ = Q .none σ := rfl
theorem aI : kFn Q (.ret v) ρ σ = Q v σ := rfl
theorem BL : eFn E n ρ σ = E n σ := rfl
theorem Bf {G : St → Prop} {B : AV → Loc → St → QS → Prop} : forL G B [] ρ σ QQ = (G σ ∧ QQ .next ρ σ) := rfl
theorem wg {G : St → Prop} {B : AV → Loc → St → QS → Prop} : forL G B (v :: vs) ρ σ QQ = (G σ ∧ B v ρ σ (kFL (forL G B vs) QQ)) := rfl
theorem rT {go : Loc → St → QS → Prop} : kFL go QQ .next ρ σ = go ρ σ QQ := rfl
theorem fJ : (z == true) = z := by cases z <;> rfl
theorem ma : (z == false) = !z := by cases z <;> rfl
theorem fD : (!true) = false := rfl
theorem iZ : (!false) = true := rfl
theorem dq : cV (.int x) (.int y) σ Q = Q (.int (x + y)) σ := rfl
theorem iy : iX (.int x) (.int y) σ Q = Q (.int (x - y)) σ := rfl
theorem zm : uA (.int x) (.int y) σ Q = ((x.natAbs < 2 ^ 63 ∨ y.natAbs < 2 ^ 63) ∧ Q (.int (x * y)) σ) := rfl
theorem bN : bv (.int x) (.int y) σ Q = (y ≠ 0 ∧ Q (.int (x.fmod y)) σ) := rfl
theorem bT : bE (.int x) (.int y) σ Q = ((y ≠ 0 ∧ y.natAbs < 1073741824) ∧ Q (.int (x.fdiv y)) σ) := rfl
theorem Ag : tE (.str s) (.str t) σ Q = (s.length + t.length ≤ 1000000 ∧ Q (.str (s ++ t)) σ) := rfl
theorem bA : aV (.tup xs) (.int i) σ Q = (0 ≤ i ∧ kn Q σ xs[i.toNat]?) := rfl
theorem i_l : gY (.ilist xs) (.int i) σ Q = (0 ≤ i ∧ kn Q σ xs[i.toNat]?) := rfl
theorem De : oSl false n m (.ilist xs) σ Q = Q (.ilist ((xs.take m).drop n)) σ := rfl
theorem zK : cLt (.int x) (.int y) σ K = K (decide (x < y)) := rfl
theorem zG : cLe (.int x) (.int y) σ K = K (decide (x ≤ y)) := rfl
theorem zC : cGt (.int x) (.int y) σ K = K (decide (x > y)) := rfl
theorem xO {p q : PyData} (h1 : rd 8 σ u = some p) (h2 : rd 8 σ v = some q) : cEq u v σ K = K (PyData.eqv p q) := propext ⟨fun ⟨p', q', e1, e2, h⟩ => by rw [h1] at e1; rw [h2] at e2; cases e1; cases e2; exact h, fun h => ⟨_, _, h1, h2, h⟩⟩
theorem Cs {p q : PyData} (h1 : rd 8 σ u = some p) (h2 : rd 8 σ v = some q) : cNe u v σ K = K (!PyData.eqv p q) := propext ⟨fun ⟨p', q', e1, e2, h⟩ => by rw [h1] at e1; rw [h2] at e2; cases e1; cases e2; exact h, fun h => ⟨_, _, h1, h2, h⟩⟩
theorem gR : cEq (.int x) (.int y) σ K = K (x == y) := xO (p := .int x) (q := .int y) rfl rfl
theorem yR : vU [.ilist xs] σ Q = Q (.int xs.length) σ := propext ⟨fun ⟨_, e, h⟩ => by cases e; exact h, fun h => ⟨_, rfl, h⟩⟩
theorem AD {a b c : Int} : tA [.int a, .int b, .int c] σ Q = Q (.int (if b < a then (if c < b then c else b) else (if c < a then c else a))) σ := propext ⟨fun ⟨_, _, _, e, h⟩ => by cases e; exact h, fun h => ⟨_, _, _, rfl, h⟩⟩
theorem pc : mJ [.int x, .int y] σ Q = Q (.int (if y > x then y else x)) σ := propext ⟨fun ⟨_, _, e, h⟩ => by cases e; exact h, fun h => ⟨_, _, rfl, h⟩⟩
theorem sZ : oM [.bool z] σ Q = Q (.int (if z then 1 else 0)) σ := propext ⟨fun ⟨_, e, h⟩ => by cases e; exact h, fun h => ⟨_, rfl, h⟩⟩
theorem nG {t : Ty} (h : cR v = true) : nY t v σ Q = Q (.bool (mc t v)) σ := propext ⟨fun h => h.2, fun q => ⟨h, q⟩⟩
theorem BK : yp n A ρ QQ EE (.ilist xs) σ = forL (gj (.ilist xs) xs) (pd n A EE) xs ρ σ QQ := propext ⟨fun ⟨_, e, q⟩ => by cases e; exact q, fun q => ⟨_, rfl, q⟩⟩
theorem aZ {fs : List (Nat × AV)} {a c : Nat} (h : σ a = some (.inst c fs)) (h' : aQ fs m = Option.none) : wa F c m f es ρ Q E (.obj a) σ = es ρ σ (rm F f a Q E) E := propext ⟨fun ⟨_, _, e, _, _, q⟩ => by cases e; exact q, fun q => ⟨_, _, rfl, h, h', q⟩⟩
theorem aq {fs : List (Nat × AV)} {a c : Nat} (h : σ a = some (.inst c fs)) (h' : aQ fs f = some v) : ay c f (.obj a) σ Q = Q v σ := propext ⟨fun ⟨_, _, _, e, e1, e2, q⟩ => by cases e; rw [h] at e1; cases e1; rw [h'] at e2; cases e2; exact q, fun q => ⟨_, _, _, rfl, h, h', q⟩⟩
theorem bV {fs : List (Nat × AV)} {a c : Nat} (h : σ a = some (.inst c fs)) (h' : fs.length < 100) : Ac c f v ρ QQ (.obj a) σ = QQ .next ρ (upd σ a (.inst c (cb f v fs))) := propext ⟨fun ⟨_, _, e, e1, _, q⟩ => by cases e; rw [h] at e1; cases e1; exact q, fun q => ⟨_, _, rfl, h, h', q⟩⟩
end
end Ap
end
section
set_option genSizeOf false
namespace Ap
open PySem PySem.Calls PyProof.Rows
noncomputable abbrev OM := AV → List AV → St → PQ → Prop
noncomputable def Ak (f : OM) (v : AV) (Q : PQ) : List AV → St → Prop := fun vs σ => f v vs σ Q
noncomputable def kBm (rc : AV → St → Prop) (f : OM) (es : WL) (ρ : Loc) (Q : PQ) (E : PE) : PQ := fun v σ => rc v σ ∧ es ρ σ (Ak f v Q) E
noncomputable def vBm (rc : AV → St → Prop) (f : OM) (e : WE) (es : WL) : WE := fun ρ σ Q E => e ρ σ (kBm rc f es ρ Q E) E
structure BmOk (C : Cx) (q : Bool) (name : Str) (rc : AV → St → Prop) (f : OM) : Prop where
  ex : ∃ T id, (PlainAttrs T ∧ Slot T name id ∧ typeOf (.builtin id) = pure (.type "method_descriptor")) ∧
    (∀ envs σ ow s v u, Good C envs σ ow s → VR C (Zs σ ow (zss envs)) s.heap v u → rc v σ → s.TypeIs u T ∧ ∀ a, u = .ref a → ∃ ob, s.heap.get? a = some ob ∧ ob.dict = Option.none) ∧
    ∀ (A : Around) envs σ ow s (Qa : PQ) (Q : Value → Shared → Prop) E v u vs vals, (q = false → A.handled = Option.none) → Good C envs σ ow s → KV C envs σ ow s (RV C) Qa Q → VR C (Zs σ ow (zss envs)) s.heap v u → VRs C (Zs σ ow (zss envs)) s.heap vs vals → f v vs σ Qa → wpAny (model C.prog C.w) A (call (.builtin id) (u :: vals)) Q E s
section
variable {C : Cx} {T : Tabs} {P : Prg} {d : Nat} {sc : Scope} {nms : List Str} {q : Bool}
theorem Both.bm {q' : Bool} {rc : AV → St → Prop} {f : OM} {n : Str} {e : WE} {o : Expr} {es : WL} {xs : List Expr} {apos pos : Pos} (hb : BmOk C q' n rc f) (he : Both C d sc nms q e o) (h : BothL C d sc nms q es xs) (hp : eh o = true)
    (hline : (apos.endLine == pos.line) = true) (hlen : xs.length < 20) (hq : q' = false → q = false) : Both C d sc nms q (vBm rc f e es) (.Call (.Attribute o n apos) xs [] pos) :=
  .of rfl fun A env envs ρ hs ha σ ow s Qa Ea Q E w ok kv kx => by
    obtain ⟨T, id, ⟨pa, sl, ty⟩, h1, h2⟩ := hb.ex
    refine wpAny_Call_method (jB hp) ?_ hline pa sl ty (he.ev A env envs ρ hs ha σ ow s _ Ea _ E w ok (fun u v σ' ow' s' z st g r => ?_) kx)
    · rw [kj h.stars]
      show (true && true && decide (xs.length + 0 + 0 < 30)) = true
      rw [Bool.and_self, Bool.true_and, decide_eq_true_eq]
      omega
    · obtain ⟨t1, t2⟩ := h1 envs σ' ow' s' v u g r z.1
      refine ⟨t1, t2, callWith_builtin (bY h.stars) (bS h.stars (h.snd hs ha σ' ow' s' _ Ea _ E z.2 (ok.stp st g) (fun vs avs σ'' ow'' s'' z' st' g' r' => ?_) (kx.stp st g)))⟩
      refine h2 A envs σ'' ow'' s'' _ _ _ _ _ _ _ (fun e => ?_) g' ((kv.stp st).stp st') (st'.vr r) r'.1 z'
      have := hq e
      subst this
      exact ok.hnd.none
noncomputable def rcL : AV → St → Prop := fun v σ => ∃ a xs, v = .obj a ∧ σ a = some (.list xs)
noncomputable def dv : OM := fun v vs σ Q => ∃ a xs x, v = .obj a ∧ vs = [x] ∧ σ a = some (.list xs) ∧ xs.length ≤ 1000000 ∧ Q .none (upd σ a (.list (xs ++ [x])))
theorem fK : BmOk C true (Str.ofString "append") rcL dv := by
  refine ⟨⟨"list", "list.append", ⟨F.plainAttrs_list, slot_list_append, type_list_append⟩, fun envs σ ow s v u g r w => ?_, fun A envs σ ow s Qa Q E v u vs vals hq g k r rs w => ?_⟩⟩
  · obtain ⟨a, xs, rfl, e⟩ := w
    cases r
    obtain ⟨us, ⟨_, n, e1⟩, _⟩ := g.store _ _ e
    exact ⟨⟨_, e1, rfl⟩, fun b hb => by cases hb; exact ⟨_, e1, rfl⟩⟩
  · obtain ⟨a, xs, x, rfl, rfl, e, hl, w⟩ := w
    cases r
    cases rs with | cons r1 r2 =>
    cases r2
    obtain ⟨us, ⟨hz, n, e1⟩, r⟩ := g.store _ _ e
    have hlen := r.length
    refine append_at (hsz := by rw [List.size_toArray]; unfold sizeLine; omega) e1 fun h' hs hD => ?_
    have kp : ∀ b ob, b ≠ a → s.heap.get? b = some ob → h'.get? b = some ob := fun b ob nb e => (hs.2 b nb).trans e
    have st := Stp.change (o := .list (xs ++ [x])) g e (.inl rfl) kp s.toks
    rename_i y
    have hD' : h'.get? a = some (kA (us ++ [y]) (n + 1)) := by rw [hD]; simp
    exact k _ _ _ ow _ w st (g.change (o := .list (xs ++ [x])) e (.inl rfl) kp (by rw [hD']; rfl) ⟨us ++ [y], ⟨by rw [List.length_append]; simp; omega, _, hD'⟩, VRs.append (.cons (st.vr r1) .nil) (st.vrs r)⟩ s.toks) .none
variable {κ : Type} [DecidableEq κ] {Z : Nat → Prop} {h : Heap}
inductive DP (C : Cx) (Z : Nat → Prop) (h : Heap) {κ : Type} : List (κ × AV) → List (κ × Value) → Prop
  | nil : DP C Z h [] []
  | cons {k : κ} {v : AV} {u : Value} {es : List (κ × AV)} {kvs : List (κ × Value)} : VR C Z h v u → DP C Z h es kvs → DP C Z h ((k, v) :: es) ((k, u) :: kvs)
theorem oC : ∀ {es : List (κ × AV)} {kvs : List (κ × Value)}, kvs.map (·.1) = es.map (·.1) → VRs C Z h (es.map (·.2)) (kvs.map (·.2)) → DP C Z h es kvs
  | [], [], _, _ => .nil
  | [], _ :: _, e, _ => by simp at e
  | _ :: _, [], e, _ => by simp at e
  | (k, v) :: es, (k', u) :: kvs, e, r => by
    simp only [List.map_cons, List.cons.injEq] at e r
    obtain ⟨rfl, e⟩ := e
    cases r with
    | cons hd tl => exact .cons hd (oC e tl)
theorem DP.keys {es : List (κ × AV)} {kvs : List (κ × Value)} (x : DP C Z h es kvs) : kvs.map (·.1) = es.map (·.1) := by
  induction x with
  | nil => rfl
  | cons _ _ ih => simp [ih]
theorem DP.vals {es : List (κ × AV)} {kvs : List (κ × Value)} (x : DP C Z h es kvs) : VRs C Z h (es.map (·.2)) (kvs.map (·.2)) := by
  induction x with
  | nil => exact .nil
  | cons r _ ih => exact .cons r ih
theorem DP.length {es : List (κ × AV)} {kvs : List (κ × Value)} (x : DP C Z h es kvs) : kvs.length = es.length := by
  induction x with
  | nil => rfl
  | cons r _ ih => exact congrArg Nat.succ ih
theorem DP.look {es : List (κ × AV)} {kvs : List (κ × Value)} (x : DP C Z h es kvs) (k : κ) : (∀ v, aQ es k = some v → ∃ u, valueAt kvs k = some u ∧ VR C Z h v u) ∧ (aQ es k = Option.none → valueAt kvs k = Option.none) := by
  induction x with
  | nil => exact ⟨fun v e => by simp [aQ] at e, fun _ => rfl⟩
  | @cons k' v u es kvs r _ ih =>
    by_cases q : k' = k
    · refine ⟨fun v' e => ?_, fun e => ?_⟩
      · simp only [aQ, List.find?_cons, q, decide_true, Option.map_some, Option.some.injEq] at e
        subst e
        exact ⟨u, by simp [valueAt, List.find?_cons, q], r⟩
      · simp [aQ, List.find?_cons, q] at e
    · have e1 : aQ ((k', v) :: es) k = aQ es k := by simp [aQ, List.find?_cons, q]
      have e2 : valueAt ((k', u) :: kvs) k = valueAt kvs k := by simp [valueAt, List.find?_cons, q]
      rw [e1, e2]
      exact ih
theorem DP.has {es : List (κ × AV)} {kvs : List (κ × Value)} (x : DP C Z h es kvs) (k : κ) : (valueAt kvs k).isSome = il es k := by
  unfold il
  cases e : aQ es k with
  | none => rw [(x.look k).2 e]; rfl
  | some v => obtain ⟨u, e', _⟩ := (x.look k).1 v e; rw [e']; rfl
theorem DP.any {es : List (κ × AV)} {kvs : List (κ × Value)} (x : DP C Z h es kvs) (k : κ) : kvs.any (fun kv => kv.1 = k) = es.any (fun kv => kv.1 = k) := by
  induction x with
  | nil => rfl
  | cons _ _ ih => simp only [List.any_cons, ih]
theorem DP.map {es : List (κ × AV)} {kvs : List (κ × Value)} (x : DP C Z h es kvs) (k : κ) {v : AV} {u : Value} (r : VR C Z h v u) : DP C Z h (es.map (fun e => if e.1 = k then (e.1, v) else e)) (kvs.map (fun e => if e.1 = k then (e.1, u) else e)) := by
  induction x with
  | nil => exact .nil
  | @cons k' v' u' es kvs r' _ ih =>
    by_cases q : k' = k
    · subst q; simpa using DP.cons r ih
    · simpa [q] using DP.cons r' ih
theorem DP.snoc {es : List (κ × AV)} {kvs : List (κ × Value)} (x : DP C Z h es kvs) (k : κ) {v : AV} {u : Value} (r : VR C Z h v u) : DP C Z h (es ++ [(k, v)]) (kvs ++ [(k, u)]) := by
  induction x with
  | nil => exact .cons r .nil
  | cons r' _ ih => exact .cons r' ih
theorem DP.put {es : List (κ × AV)} {kvs : List (κ × Value)} (x : DP C Z h es kvs) (k : κ) {v : AV} {u : Value} (r : VR C Z h v u) : DP C Z h (cb k v es) (stored kvs k u) := by
  unfold cb stored
  rw [x.any k]
  split
  · exact x.map k r
  · exact x.snoc k r
theorem DP.del {es : List (κ × AV)} {kvs : List (κ × Value)} (x : DP C Z h es kvs) (k : κ) : DP C Z h (fQ k es) (without kvs k) := by
  unfold fQ without
  induction x with
  | nil => exact .nil
  | @cons k' v' u' es kvs r' _ ih =>
    by_cases q : k' = k
    · simpa [q] using ih
    · simpa [q] using DP.cons r' ih
theorem DP.kp {Z' : Nat → Prop} {h' : Heap} (k : Kp Z h h') (g : Zg Z Z' h) {es : List (κ × AV)} {kvs : List (κ × Value)} (x : DP C Z h es kvs) : DP C Z' h' es kvs := by
  induction x with
  | nil => exact .nil
  | cons r _ ih => exact .cons (r.kp k g) ih
structure DK (C : Cx) (κ : Type) [DecidableEq κ] where
  knd : KeyKind C.prog C.w κ
  key : κ → AV
  ob : List (κ × AV) → AObj
  is : ∀ {Z h k u}, VR C Z h (key k) u → knd.is k u = true
  part : ∀ {Z h k u}, VR C Z h (key k) u → (keyPart u).isSome = true
  get : ∀ {Z ow h a es}, ORep C Z ow h a (ob es) → ∃ kvs, h.DictOf knd a kvs ∧ (a == sysModules) = false ∧ kvs.map (·.1) = es.map (·.1) ∧ VRs C Z h (es.map (·.2)) (kvs.map (·.2))
  put : ∀ {Z ow h a es kvs}, h.DictOf knd a kvs → (a == sysModules) = false → DP C Z h es kvs → ORep C Z ow h a (ob es)
noncomputable def dkI (C : Cx) : DK C Int where
  knd := intKind C.prog C.w
  key := .int
  ob := .dictI
  is := fun r => by cases r; exact intKind_is _ _ _ _
  part := fun r => by cases r; rfl
  get := fun r => r
  put := fun a b c => ⟨_, a, b, c.keys, c.vals⟩
noncomputable def dkS (C : Cx) : DK C Str where
  knd := strKind C.prog C.w
  key := .str
  ob := .dictS
  is := fun r => by cases r; exact strKind_is _ _ _ _
  part := fun r => by cases r; rfl
  get := fun r => r
  put := fun a b c => ⟨_, a, b, c.keys, c.vals⟩
noncomputable def Cv {κ : Type} [DecidableEq κ] (key : κ → AV) (ob : List (κ × AV) → AObj) : OC := fun a b σ K => ∃ l es k, b = .obj l ∧ a = key k ∧ σ l = some (ob es) ∧ K (il es k)
noncomputable def yU {κ : Type} [DecidableEq κ] (key : κ → AV) (ob : List (κ × AV) → AObj) : OC := fun a b σ K => ∃ l es k, b = .obj l ∧ a = key k ∧ σ l = some (ob es) ∧ K (!il es k)
noncomputable def zv {κ : Type} [DecidableEq κ] (key : κ → AV) (ob : List (κ × AV) → AObj) (v u : AV) (ρ : Loc) (Q : QS) : PQ := fun kk σ => ∃ a es k, u = .obj a ∧ kk = key k ∧ σ a = some (ob es) ∧ es.length ≤ 1000000 ∧ Q .next ρ (upd σ a (ob (cb k v es)))
noncomputable def Ay {κ : Type} [DecidableEq κ] (key : κ → AV) (ob : List (κ × AV) → AObj) (i : WE) (v : AV) (ρ : Loc) (Q : QS) (E : ES) : PQ := fun u σ => i ρ σ (zv key ob v u ρ Q) (kE E ρ)
noncomputable def Aw {κ : Type} [DecidableEq κ] (key : κ → AV) (ob : List (κ × AV) → AObj) (o i : WE) (ρ : Loc) (Q : QS) (E : ES) : PQ := fun v σ => o ρ σ (Ay key ob i v ρ Q E) (kE E ρ)
noncomputable def nh {κ : Type} [DecidableEq κ] (key : κ → AV) (ob : List (κ × AV) → AObj) (o i e : WE) : WS := fun ρ σ Q E => e ρ σ (Aw key ob o i ρ Q E) (kE E ρ)
noncomputable def rcD : AV → St → Prop := fun v σ => ∃ a es, v = .obj a ∧ σ a = some (.dictI es)
noncomputable def wK : OM := fun v vs σ Q => ∃ a es k x, v = .obj a ∧ vs = [.int k] ∧ σ a = some (.dictI es) ∧ aQ es k = some x ∧ es.length ≤ 1000000 ∧ Q x (upd σ a (.dictI (fQ k es)))
noncomputable def wd : WE := fun _ σ Q _ => ∀ a, σ a = Option.none → Q (.obj a) (upd σ a (.dictI []))
theorem DictOf.clsn {prog : Program} {w : World} {knd : KeyKind prog w κ} {a : Addr} {kvs : List (κ × Value)} (x : h.DictOf knd a kvs) : ∃ o, h.get? a = some o ∧ o.cls = .type "dict" ∧ o.dict = Option.none := by
  obtain ⟨o, es, ep, e, hc, _⟩ := x
  exact ⟨o, e, hc.1, hc.2.1⟩
theorem xx (D : DK C κ) : CmpSnd C .In (Cv D.key D.ob) := by
  intro A envs σ ow s K Q E va vb a b hu g ra rb w k
  obtain ⟨l, es, kk, rfl, rfl, e, w⟩ := w
  cases rb
  obtain ⟨kvs, at_, ne, ks, r⟩ := D.get (g.store _ _ e)
  exact wpAny_in_of (D.is ra) ne at_.mapOf (k _ _ (by rw [(oC ks r).has]; exact w))
theorem vj (D : DK C κ) : CmpSnd C .NotIn (yU D.key D.ob) := by
  intro A envs σ ow s K Q E va vb a b hu g ra rb w k
  obtain ⟨l, es, kk, rfl, rfl, e, w⟩ := w
  cases rb
  obtain ⟨kvs, at_, ne, ks, r⟩ := D.get (g.store _ _ e)
  exact wpAny_notIn_of (D.is ra) ne at_.mapOf (k _ _ (by rw [(oC ks r).has]; exact w))
theorem BothS.setItem (D : DK C κ) {o i e : WE} {ov iv v : Expr} {np pos : Pos} (ho : Both C d sc nms q o ov) (hi : Both C d sc nms q i iv) (he : Both C d sc nms q e v) (hc : dP v = true) :
    BothS C d sc nms q (nh D.key D.ob o i e) (.Assign [.Subscript ov iv np] v pos) where
  snd := fun A env V outer hF hs ha ρ σ ow s Qa Ea Q E w k ks kx => by
    refine wpAny_Assign_Subscript (he.ev A env V ρ hs ha σ ow s _ _ _ E w k.ok (fun u av σ' ow' s' z st g r => ?_) (kx.toE hF k)) (ib hc)
    have k' := k.stp hF st g
    refine ho.ev A env V ρ hs ha σ' ow' s' _ _ _ E z k'.ok (fun u2 av2 σ₂ ow₂ s₂ z₂ st₂ g₂ r₂ => ?_) ((kx.stp st.toS g).toE hF k')
    have k₂ := k'.stp hF st₂ g₂
    refine hi.ev A env V ρ hs ha σ₂ ow₂ s₂ _ _ _ E z₂ k₂.ok (fun u3 av3 σ₃ ow₃ s₃ z₃ st₃ g₃ r₃ => ?_) (((kx.stp st.toS g).stp st₂.toS g₂).toE hF k₂)
    obtain ⟨a, es, kk, rfl, rfl, hσ, hl, z₃⟩ := z₃
    cases r₂
    obtain ⟨kvs, at_, ne, kse, rr⟩ := D.get (g₃.store _ _ hσ)
    have dp := oC kse rr
    have hlen := dp.length
    refine wpAny_setItem_pairs (hsz := by unfold sizeLine; omega) (D.is r₃) at_ fun h' hm hsb => ?_
    have kp : ∀ b ob, b ≠ a → s₃.heap.get? b = some ob → h'.get? b = some ob := fun b ob nb e => (hsb.2 b nb).trans e
    have st₄ := Stp.change (o := D.ob (cb kk av es)) g₃ hσ (.inl rfl) kp (s₃.toks + 1)
    have hlv : (h'.get? a).isSome = true := by obtain ⟨o, e, _⟩ := DictOf.clsn hm; rw [e]; rfl
    have dp' : DP C (Zs (upd σ₃ a (D.ob (cb kk av es))) ow₃ (zss V)) h' (cb kk av es) (stored kvs kk u) := DP.put (dp.kp (st₄.kp V.sub) st₄.zg) kk (st₄.vr (st₃.vr (st₂.vr r)))
    have g₄ := g₃.change (o := D.ob (cb kk av es)) hσ (.inl rfl) kp hlv (D.put hm ne dp') (s₃.toks + 1)
    exact ks _ _ ρ _ ow₃ _ z₃ (((st.trans st₂).trans st₃).trans st₄).toS ((k₂.stp hF st₃ g₃).stp hF st₄ g₄) .next
theorem zZ : BmOk C true (Str.ofString "pop") rcD wK := by
  refine ⟨⟨"dict", "dict.pop", ⟨F.plainAttrs_dict, F.slot_dict_pop, F.type_dict_pop⟩, fun envs σ ow s v u g r w => ?_, fun A envs σ ow s Qa Q E v u vs vals hq g k r rs w => ?_⟩⟩
  · obtain ⟨a, es, rfl, e⟩ := w
    cases r
    obtain ⟨kvs, at_, _⟩ := (dkI C).get (g.store _ _ e)
    obtain ⟨o, e1, e2, e3⟩ := DictOf.clsn at_
    exact ⟨⟨_, e1, e2⟩, fun b hb => by cases hb; exact ⟨_, e1, e3⟩⟩
  · obtain ⟨a, es, kk, x, rfl, rfl, e, hx, hl, w⟩ := w
    cases r
    cases rs with | cons r1 r2 =>
    cases r2
    obtain ⟨kvs, at_, ne, kse, rr⟩ := (dkI C).get (g.store _ _ e)
    have dp := oC kse rr
    have hlen := dp.length
    obtain ⟨u, e', r'⟩ := (dp.look _).1 x hx
    refine call_meetsIn F.slot_dict_pop at_.typeIs F.entry_dict_pop (F.args_dict_pop_2 _ _) (meets_dict_pop_there (dkI C).knd _ ((dkI C).is r1) [] (.inl rfl) ((dkI C).part r1)) ⟨kvs, u, at_, by unfold sizeLine; omega, e', fun h' hm hsb => ?_⟩
    have kp : ∀ b ob, b ≠ a → s.heap.get? b = some ob → h'.get? b = some ob := fun b ob nb e => (hsb.2 b nb).trans e
    have st := Stp.change (o := .dictI (fQ kk es)) g e (.inl rfl) kp (s.toks + 1)
    have hlv : (h'.get? a).isSome = true := by obtain ⟨o, e, _⟩ := DictOf.clsn hm; rw [e]; rfl
    have dp' : DP C (Zs (upd σ a (.dictI (fQ kk es))) ow (zss envs)) h' (fQ kk es) (without kvs kk) := DP.del (dp.kp (st.kp envs.sub) st.zg) kk
    exact k _ _ _ ow _ w st (g.change (o := .dictI (fQ kk es)) e (.inl rfl) kp hlv ((dkI C).put hm ne dp') (s.toks + 1)) (st.vr r')
theorem Both.dctI {pos : Pos} (X : CxOk C T P) : Both C d sc nms q wd (.Dict [] [] pos) :=
  .of rfl fun A env envs ρ hs ha σ ow s Qa Ea Q E w ok kv kx => by
    refine wpAny_Dict_empty ?_
    have qq : ∀ b o', s.heap.get? b = some o' → (s.heap.push { cls := .type "dict", data := .dict #[] }).get? b = some o' := fun _ _ e => Heap.get?_push_of_some _ e
    have na : s.heap.get? s.heap.objs.size = Option.none := Heap.fresh _
    have big := ok.good.big X
    refine kv _ _ _ ow _ (w s.heap.objs.size ok.good.new.1) (Stp.alloc qq na s.toks) (ok.good.alloc (o := .dictI []) qq na ok.good.new.2.2 (Heap.get?_push_size _ rfl) ((dkI C).put (Heap.DictOf.new _) ?_ .nil) s.toks) (.obj _)
    exact beq_eq_false_iff_ne.mpr (fun e => by have : s.heap.objs.size = sysModules := e; rw [this] at big; exact absurd big (by decide))
end
end Ap
end
section
set_option genSizeOf false
namespace Ap
open PySem PySem.Calls PyProof.Rows
noncomputable abbrev WX := Loc → St → (List AV → (St → Prop) → St → Prop) → PE → Prop
noncomputable def kXL (K : List AV → (St → Prop) → St → Prop) : PQ := fun v σ => ∃ xs, dS σ v = some xs ∧ K xs (gj v xs) σ
noncomputable def cZ (e : WE) : WX := fun ρ σ K E => e ρ σ (kXL K) E
noncomputable def yV : List AV → Option (Int × Int)
  | [.int b] => some (0, b)
  | [.int a, .int b] => some (a, b)
  | _ => Option.none
noncomputable def bW (a b : Int) : List AV := (List.range (b - a).toNat).map fun (k : Nat) => .int (a + k)
noncomputable def kXR (K : List AV → (St → Prop) → St → Prop) : List AV → St → Prop := fun vs σ => ∃ a b, yV vs = some (a, b) ∧ (a.natAbs < 2 ^ 60 ∧ b.natAbs < 2 ^ 60 ∧ b - a ≤ 1000000) ∧ K (bW a b) (fun _ => True) σ
noncomputable def mK (es : WL) : WX := fun ρ σ K E => es ρ σ (kXR K) E
noncomputable def vk (x : Nat) (body : WS) (ρ : Loc) (Q : QS) (E : ES) : List AV → (St → Prop) → St → Prop := fun xs G σ => forL G (pd x body E) xs ρ σ Q
noncomputable def oj (x : Nat) (src : WX) (body : WS) : WS := fun ρ σ Q E => src ρ σ (vk x body ρ Q E) (kE E ρ)
structure SrcI (C : Cx) (A : Around) (q : Bool) (target : Expr) (I : Addr) (wr : List Addr) (xs : List AV) (G : St → Prop) (inv : Vo → Nat → St → (Nat → Option Nat) → Shared → Prop) : Prop where
  it : ∀ V, It C A q target V I wr xs G (inv V)
  wide : ∀ V ex i σ ow s h' t, inv V i σ ow s → (∀ b ∈ ex, s.heap.get? b = Option.none) → (∀ b o, s.heap.get? b = some o → h'.get? b = some o) → inv (V.plus ex) i σ ow { s with heap := h', toks := t }
structure SrcE (C : Cx) (d : Nat) (sc : Scope) (nms : List Str) (q : Bool) (target iter : Expr) (w : WX) : Prop where
  snd : ∀ A env V ρ, env.scope = sc → AOk A V d → ∀ σ ow s K Ea (Q : Value → Shared → Prop) E, w ρ σ K Ea → Ok C A q env V nms ρ σ ow s → KX C V σ ow s Ea E →
    (∀ I wr xs G inv σ' ow' s', K xs G σ' → SrcI C A q target I wr xs G inv → Stp (frs V) (Own σ ow) (Own σ' ow') s s' → Ok C A q env (V.plus wr) nms ρ σ' ow' s' → inv V 0 σ' ow' s' → (∀ b ∈ wr, s.heap.get? b = Option.none) → xs.length ≤ 16777216 → Q (.ref I) s') →
    wpAny (model C.prog C.w) A (eval iter env) (fun x s₁ => wpAny (model C.prog C.w) A (pyIter x) Q E s₁) E s
section
variable {C : Cx} {T : Tabs} {P : Prg} {d : Nat} {sc : Scope} {nms : List Str} {q : Bool} {A : Around} {V : Vo} {σ σ' : St} {ow ow' : Nat → Option Nat} {s s' : Shared}
theorem mw {ex wr : List Addr} {h : Heap} (fr : ∀ b ∈ ex, h.get? b = Option.none) : Zg (Zs σ ow (zss (V.plus wr))) (Zs σ ow (zss ((V.plus ex).plus wr))) h := fun b z => by
  rcases z with z | z
  · exact .inl (.inl z)
  · rcases Vo.plus_mem z with z | z
    · rcases Vo.plus_mem z with z | z
      · exact .inl (.inr (Vo.plus_sub b z))
      · exact .inr (fr b z)
    · exact .inl (.inr (Vo.plus_wr z))
theorem SrcI.ilist {target : Expr} {I ax : Addr} {vs : List Value} {xs : List AV} {G : St → Prop} : SrcI C A q target I [I] xs G (fun V => AQ C V I ax vs xs) where
  it := fun V => It.ilist
  wide := fun V ex i σ ow s h' t h fr gr => by
    obtain ⟨⟨o, e1, e2, e3⟩, ⟨hz, n, e4⟩, r, nz⟩ := h
    have zg := mw (V := V) (wr := [I]) (σ := σ) (ow := ow) fr
    exact ⟨⟨o, gr _ _ e1, e2, e3⟩, ⟨hz, n, gr _ _ e4⟩, r.kp (fun b o e _ => gr b o e) zg, zg.not e4 nz⟩
theorem SrcI.own {target : Expr} {I a : Addr} {xs : List AV} : SrcI C A q target I [I] xs (fun σ => σ a = some (.list xs)) (fun _ i σ ow s => s.heap.IsListIter I a i) where
  it := fun V => It.own
  wide := fun V ex i σ ow s h' t h fr gr => by
    obtain ⟨o, e1, e2, e3⟩ := h
    exact ⟨o, gr _ _ e1, e2, e3⟩
theorem SrcE.list {e : WE} {v target : Expr} (he : Both C d sc nms q e v) : SrcE C d sc nms q target v (cZ e) where
  snd := fun A env V ρ hs ha σ ow s K Ea Q E w ok kx h => by
    refine he.ev A env V ρ hs ha σ ow s _ _ _ E w ok (fun u av σ' ow' s' z st g r => ?_) kx
    obtain ⟨items, hseq, z⟩ := z
    obtain ⟨l, vs, rfl, li, rr, hc⟩ := lk g r hseq
    have hz := li.1
    obtain ⟨hh, gg, dd, tt, oo⟩ := s'
    refine oO li fun h' gr it => ?_
    have fr : ∀ b ∈ [hh.objs.size], hh.get? b = Option.none ∧ ∃ o, h'.get? b = some o := fun b m => by
      rw [List.mem_singleton.mp m]
      obtain ⟨o, e, _⟩ := it
      exact ⟨Heap.fresh _, o, e⟩
    have ko := (ok.stp st g).open_ (h' := h') (t := tt) (wr := [hh.objs.size]) gr fr
    have st' := st.trans (Stp.ext (s := ⟨hh, gg, dd, tt, oo⟩) (O := Own σ' ow') gr tt)
    have fr0 : ∀ b ∈ [hh.objs.size], s.heap.get? b = Option.none := fun b m => st.back rfl g b (fr b m).1
    have hlen : items.length ≤ 16777216 := by rw [rr.length]; exact hz
    rcases hc with ⟨rfl, off⟩ | ⟨rfl, hst⟩
    · have zg : Zg (Zs σ' ow' (zss V)) (Zs σ' ow' (zss (V.plus [hh.objs.size]))) hh := fun b y => by
        rcases y with y | y
        · exact .inl (.inl y)
        · rcases Vo.plus_mem y with y | y
          · exact .inl (.inr y)
          · exact .inr (fr b y).1
      obtain ⟨y1, m, y2⟩ := li
      exact h _ _ _ _ _ σ' ow' _ z (SrcI.ilist (ax := l) (vs := vs)) st' ko ⟨it, ⟨y1, m, gr _ _ y2⟩, rr.kp (fun b o e _ => gr b o e) zg, zg.not y2 off⟩ fr0 hlen
    · exact h _ _ _ _ _ σ' ow' _ z SrcI.own st' ko it fr0 hlen
noncomputable def BV (C : Cx) (fp wr : List Addr) (P : Nat → Value → Prop) (S : Nat → Heap → Prop) (xs : List AV) (V : Vo) (i : Nat) (σ : St) (ow : Nat → Option Nat) (s : Shared) : Prop :=
  S i s.heap ∧ (∀ b ∈ fp, b ∈ wr ∨ (¬ Zs σ ow (zss (V.plus wr)) b ∧ ∃ o, s.heap.get? b = some o)) ∧ ∀ j x v, xs[j]? = some x → P j v → VR C (Zs σ ow (zss (V.plus wr))) s.heap x v
theorem It.ofW {I : Addr} {fp wr : List Addr} {m : Nat} {P : Nat → Value → Prop} {S : Nat → Heap → Prop} {xs : List AV} {n : Str} {np : Pos} (W : Walks C.prog C.w A I fp wr m P S) (hm : m = xs.length) (lv : ∀ i h, S i h → ∀ b ∈ wr, ∃ o, h.get? b = some o) {G : St → Prop} :
    It C A q (.Name n np) V I wr xs G (BV C fp wr P S xs V) where
  step := fun X i σ ow s σ' ow' s' h g x g' _ => by
    obtain ⟨h1, h2, h3⟩ := h
    refine ⟨W.frame i _ _ h1 fun b hb o e => ?_, fun b hb => ?_, fun j y v hj hp => SStp.vr (envs := V.plus wr) x (h3 j y v hj hp)⟩
    · rcases h2 b hb with m | ⟨nz, _⟩
      · exact jS g m x e
      · exact x.keep b o e (fun z => nz (.inl z)) fun z => nz (.inr ((V.plus wr).sub b z))
    · rcases h2 b hb with m | ⟨nz, o, e⟩
      · exact .inl m
      · exact .inr ⟨(x.zg (zs := zss (V.plus wr))).not e nz, o, x.keep b o e (fun z => nz (.inl z)) fun z => nz (.inr ((V.plus wr).sub b z))⟩
  next := fun i y σ ow s Q E hy h g _ K => by
    obtain ⟨h1, h2, h3⟩ := h
    have hi : i < m := by rw [hm]; exact (List.getElem?_eq_some_iff.mp hy).1
    refine W.item i s _ E hi h1 fun v h' tk hP hS hk => ?_
    have hK : Kp (Zs σ ow (zss (V.plus wr))) s.heap h' := fun b o e nb => hk b o (fun m => nb (.inr (Vo.plus_wr m))) e
    refine wpAny_pure (K v h' tk ((h3 i y v hy hP).kp hK (Zg.refl _ _)) ⟨hS, fun b hb => ?_, fun j z u hj hp => (h3 j z u hj hp).kp hK (Zg.refl _ _)⟩ hk (lv _ _ hS))
    rcases h2 b hb with m | ⟨nz, o, e⟩
    · exact .inl m
    · exact .inr ⟨nz, o, hK b o e nz⟩
  done := fun σ ow s Q E h g hh _ K => by
    rw [← hm] at h
    exact W.done s _ E h.1 fun h' tk hk => K h' tk hk
  move := fun i σ ow s h' tk h g k => by
    obtain ⟨h1, h2, h3⟩ := h
    have hK : Kp (Zs σ ow (zss (V.plus wr))) s.heap h' := fun b o e nb => k b o (fun m => absurd (.inr (Vo.plus_sub b (List.mem_append_right _ m))) nb) e
    refine ⟨W.frame i _ _ h1 fun b hb o e => ?_, fun b hb => ?_, fun j z u hj hp => (h3 j z u hj hp).kp hK (Zg.refl _ _)⟩
    · rcases h2 b hb with m | ⟨nz, _⟩
      · exact k b o (fun _ => m) e
      · exact hK b o e nz
    · rcases h2 b hb with m | ⟨nz, o, e⟩
      · exact .inl m
      · exact .inr ⟨nz, o, hK b o e nz⟩
  self := fun i σ ow s Q E h g K => W.self i s Q E h.1 K
theorem SrcI.ofW {I : Addr} {fp wr : List Addr} {m : Nat} {P : Nat → Value → Prop} {S : Nat → Heap → Prop} {xs : List AV} {n : Str} {np : Pos} (W : Walks C.prog C.w A I fp wr m P S) (hm : m = xs.length) (lv : ∀ i h, S i h → ∀ b ∈ wr, ∃ o, h.get? b = some o) {G : St → Prop} :
    SrcI C A q (.Name n np) I wr xs G (BV C fp wr P S xs) where
  it := fun V => It.ofW W hm lv
  wide := fun V ex i σ ow s h' t h fr gr => by
    obtain ⟨h1, h2, h3⟩ := h
    have zg := mw (V := V) (wr := wr) (σ := σ) (ow := ow) fr
    refine ⟨W.frame i _ _ h1 fun b _ o e => gr b o e, fun b hb => ?_, fun j y v hj hp => (h3 j y v hj hp).kp (fun b o e _ => gr b o e) zg⟩
    rcases h2 b hb with m | ⟨nz, o, e⟩
    · exact .inl m
    · exact .inr ⟨zg.not e nz, o, gr b o e⟩
theorem qt {a b : Int} (h1 : a.natAbs < 2 ^ 60) (h2 : b.natAbs < 2 ^ 60) : Builtin.Range.small a b 1 = true ∧ Builtin.Range.rangeSize a b 1 = (((b - a).toNat : Nat) : Int) := by
  have e : Builtin.Range.rangeSize a b 1 = (((b - a).toNat : Nat) : Int) := by rw [rangeSize_one]; split <;> omega
  refine ⟨?_, e⟩
  unfold Builtin.Range.small
  rw [e]
  simp only [Builtin.Range.rangeFitsLong, show ((1 : Int) > 0) = True by simp, if_true]
  simp
  omega
theorem vW {a c : Int} {n : Nat} {I : Addr} : ∀ (i : Nat) (h : Heap), IsRangeIter h I (a + (i : Nat) * c) ((n : Int) - (i : Nat)) c → ∀ b ∈ [I], ∃ o, h.get? b = some o := fun i h e b hb => by
  rw [List.mem_singleton.mp hb]
  exact ⟨_, e⟩
theorem SrcE.range (X : CxOk C T P) {n : Str} {np pp pos : Pos} {nm : Str} {es : WL} {xs : List Expr} (h : BothL C d sc nms false es xs) (hr : n = (Str.ofString "range")) (hn : n ∈ T.bltN) (h3 : gl sc n = true) : SrcE C d sc nms false (.Name nm pp) (.Call (.Name n np) xs [] pos) (mK es) where
  snd := fun A env V ρ hs ha σ ow s K Ea Q E w ok kx hQ => by
    obtain ⟨g1, g2, g3⟩ := eT h3
    have hboot : bootBuiltins n = some (.type "range") := by rw [hr]; decide +kernel
    refine wpAny_Call_ofName (bname X (by unfold Env.kindOf; rw [hs]; exact g1) g2 ok hn g3 hboot ?_)
    refine PyProof.Rows.callWith_type (bY h.stars) (bS h.stars (h.snd hs ha σ ow s _ Ea _ E w ok (fun vs avs σ' ow' s' z st g r => ?_) kx))
    obtain ⟨a, b, hab, ⟨ha1, hb1, hlen⟩, z⟩ := z
    obtain ⟨hsm, hsz⟩ := qt ha1 hb1
    have hh := ok.hnd.none
    have fin : ∀ (h₁ : Heap) (tk : Nat) (R : Addr) (t u v : Tok), (∀ b o, s'.heap.get? b = some o → h₁.get? b = some o) → IsRange h₁ R a b 1 t u v → wpAny (model C.prog C.w) A (pyIter (.ref R)) Q E { s' with heap := h₁, toks := tk } := fun h₁ tk R t u v gr1 hR => by
      refine wpAny_pyIter_range hR hsm ?_
      have gr : ∀ c o, s'.heap.get? c = some o → (h₁.push { cls := .type "range_iterator", data := .fields #[rawInt a, rawInt (Builtin.Range.rangeSize a b 1), rawInt 1] }).get? c = some o := fun c o e => Heap.get?_push_of_some _ (gr1 c o e)
      have nI : s'.heap.get? h₁.objs.size = Option.none := by
        cases e : s'.heap.get? h₁.objs.size with
        | none => rfl
        | some o => exact absurd (Heap.lt_size (gr1 _ _ e)) (Nat.lt_irrefl _)
      have fr : ∀ c ∈ [h₁.objs.size], s'.heap.get? c = Option.none ∧ ∃ o, (h₁.push { cls := .type "range_iterator", data := .fields #[rawInt a, rawInt (Builtin.Range.rangeSize a b 1), rawInt 1] }).get? c = some o := fun c m => by
        rw [List.mem_singleton.mp m]
        exact ⟨nI, _, Heap.get?_push_size _ rfl⟩
      have ko := (ok.stp st g).open_ (t := tk) (wr := [h₁.objs.size]) gr fr
      refine hQ _ _ _ _ _ σ' ow' _ z (SrcI.ofW (Walks.range hh h₁.objs.size a 1 (b - a).toNat) (by unfold bW; rw [List.length_map, List.length_range]) vW) (st.trans (Stp.ext gr tk)) ko ⟨?_, fun c hc => .inl hc, fun j x v hj hp => ?_⟩ (fun c m => st.back rfl g c (fr c m).1) (by unfold bW; rw [List.length_map, List.length_range]; omega)
      · show IsRangeIter _ _ _ _ _
        rw [hsz]
        simpa using Heap.get?_push_size _ rfl
      · obtain ⟨t, rfl⟩ := hp
        unfold bW at hj
        rw [List.getElem?_map, Option.map_eq_some_iff] at hj
        obtain ⟨k, hk, rfl⟩ := hj
        have : k = j := by
          obtain ⟨hlt, e⟩ := List.getElem?_eq_some_iff.mp hk
          rw [List.getElem_range] at e
          exact e.symm
        subst this
        rw [Int.mul_one]
        exact .int _ _
    obtain ⟨r, _⟩ := r
    cases r with
    | nil => cases hab
    | cons r1 r2 =>
      cases r2 with
      | nil =>
        cases r1 <;> cases hab
        exact call_range_1 (fin _ _ _ _ _ _ (fun _ _ e => Heap.get?_push_of_some _ e) (Heap.get?_push_size _ rfl))
      | cons r2 r3 =>
        cases r3 with
        | nil =>
          cases r1 <;> first | cases hab | skip
          cases r2 <;> cases hab
          exact call_range_2 (fin _ _ _ _ _ _ (fun _ _ e => Heap.get?_push_of_some _ e) (Heap.get?_push_size _ rfl))
        | cons r3 r4 => cases r1 <;> first | cases hab | (cases r2 <;> cases hab)
theorem BothS.forX {src : WX} {v : Expr} {x : Nat} {n : Str} {body : WS} {xs : List Stmt} {np pos : Pos} (hS : SrcE C d sc nms q (.Name n np) v src) (hB : BothB C d sc nms q body xs) (hv : jD v = true) (hn : nms[x]? = some n) :
    BothS C d sc nms q (oj x src body) (.For (.Name n np) v xs [] pos) where
  snd := fun A env V outer hF hs ha ρ σ ow s Qa Ea Q E w k ks kx => by
    refine wpAny_For (hS.snd A env V ρ hs ha σ ow s _ _ _ E w k.ok (kx.toE hF k) fun I wr xs G inv σ' ow' s' z S st ko hi fr hl => ?_) fun x => gi hv
    have g := ko.good.close_
    have k' := k.stp hF st g
    have nz : ∀ b ∈ wr, b ∉ V.its := fun b m n => by
      obtain ⟨_, o, y⟩ := k.ok.good.mem b (List.mem_append_right _ n)
      rw [fr b m] at y; cases y
    exact jR hF ha.frames (S.it V) (hB.snd A env (V.plus wr) outer hF.plus hs ha.plus) (.one hF.plus hn) k.ok.good.stays fr nz ks kx hi ⟨ko, k'.ns, k'.cells⟩ st.toS (fun v ρ σ R h => ⟨_, rfl, h⟩) z
end
end Ap
end
section
set_option genSizeOf false
namespace Ap
open PySem PySem.Calls PyProof.Rows
noncomputable def dA (caps : List Nat) (ρ : Loc) : Loc := ρ.zipIdx.map fun p => if caps.contains p.2 then p.1 else Option.none
noncomputable abbrev TB := AV → Loc → Option Loc
noncomputable def tb1 (x : Nat) : TB := fun v ρ => some (setL ρ x v)
noncomputable def eNo : PE := fun _ _ => False
noncomputable def kCL (go : List AV → St → (List AV → St → Prop) → Prop) (acc : List AV) (Q : List AV → St → Prop) : PQ := fun y σ => go (acc ++ [y]) σ Q
noncomputable def lT (G : St → Prop) (B : AV → St → PQ → Prop) : List AV → List AV → St → (List AV → St → Prop) → Prop
  | [], acc, σ, Q => G σ ∧ Q acc σ
  | v :: vs, acc, σ, Q => G σ ∧ B v σ (kCL (lT G B vs) acc Q)
noncomputable def sR (tb : TB) (elt : WE) (ρ : Loc) : AV → St → PQ → Prop := fun v σ R => ∃ ρ', tb v ρ = some ρ' ∧ elt ρ' σ R eNo
noncomputable def mY (own : Bool) (Q : PQ) : List AV → St → Prop := fun ys σ => mkL own ys σ Q
noncomputable def ve (own : Bool) (tb : TB) (elt : WE) (ρ : Loc) (Q : PQ) : List AV → (St → Prop) → St → Prop := fun xs G σ => lT G (sR tb elt ρ) xs [] σ (mY own Q)
noncomputable def cJ (own : Bool) (src : WX) (tb : TB) (caps : List Nat) (elt : WE) : WE := fun ρ σ Q E => (caps.all fun i => (gz ρ i).isSome) = true ∧ src ρ σ (ve own tb elt (dA caps ρ) Q) E
noncomputable def nB (scope sc : Scope) : Scope := { scope with names := scope.names.map fun p => if (p.2 == .free && sc.kind == .function && sc.names.lookup p.1 == some .cell) then (p.1, .cell) else (p.1, p.2) }
noncomputable def TgtOk (C : Cx) (scc : Scope) (nms' : List Str) (target : Expr) (tb : TB) : Prop :=
  ∀ (A : Around) (cenv : Env) V σ ow s v u m ρ ρ' (Q : Unit → Shared → Prop) E, A.handled = Option.none → cenv.scope = scc → s.heap.Ns cenv.locals m → VR C (Zs σ ow (zss V)) s.heap v u → tb v ρ = some ρ' →
    (∀ h' tk m', (∀ b o, b ≠ cenv.locals → s.heap.get? b = some o → h'.get? b = some o) → h'.Ns cenv.locals m' →
      (∀ j w, gz ρ' j = some w → gz ρ j = some w ∨ ∃ y val, nms'[j]? = some y ∧ VR C (Zs σ ow (zss V)) s.heap w val ∧ scc.names.lookup y = some .local ∧ m' y = some val) → Q () { s with heap := h', toks := tk }) →
    wpAny (model C.prog C.w) A (assign target cenv u) Q E s
section
variable {C : Cx} {T : Tabs} {P : Prg} {d : Nat} {sc : Scope} {nms nms' : List Str} {q : Bool} {A : Around} {V : Vo} {σ σ' : St} {ow ow' : Nat → Option Nat} {s s' : Shared} {env : Env}
theorem TgtOk.one {scc : Scope} {i : Nat} {x : Str} {pos : Pos} (hk : scc.kind = .function) (hx : nms'[i]? = some x) (hl : scc.names.lookup x = some .local) : TgtOk C scc nms' (.Name x pos) (tb1 i) := by
  intro A cenv V σ ow s v u m ρ ρ' Q E hh hs hn r e K
  cases e
  refine assign_Name (wpAny_storeName_local (by unfold Env.kindOf; rw [hs]; exact hl) hn (fun h' hn' hsb => ?_) (by rw [hs, hk]; rfl))
  refine K h' _ _ (fun b o nb e => (hsb.2 b nb).trans e) hn' fun j w hj => ?_
  rcases iw hj with ⟨rfl, rfl⟩ | ⟨_, e⟩
  · exact .inr ⟨x, u, hx, r, hl, if_pos rfl⟩
  · exact .inl e
theorem og {l : List (Str × Addr)} {y : Str} {c : Addr} (hm : (y, c) ∈ l) (hu : ∀ c', (y, c') ∈ l → c' = c) : l.lookup y = some c := by
  induction l with
  | nil => cases hm
  | cons p r ih =>
    obtain ⟨k, v⟩ := p
    rw [List.lookup_cons]
    cases hb : y == k with
    | true =>
      have := beq_iff_eq.mp hb
      subst this
      rw [hu v List.mem_cons_self]
    | false =>
      rcases List.mem_cons.mp hm with e | hm
      · cases e; rw [beq_self_eq_true] at hb; cases hb
      · exact ih hm fun c' h => hu c' (List.mem_cons_of_mem _ h)
theorem sP {scope : Scope} (hf : ∀ y ∈ scope.names, y.2 = .free → ∃ c, env.cells.lookup y.1 = some c) :
    ∃ cl, closureFor scope env = pure cl ∧ ∀ y c, (y, NameKind.free) ∈ scope.names → env.cells.lookup y = some c → cl.lookup y = some c := by
  have go : ∀ (l : List (Str × NameKind)), (∀ y ∈ l, y.2 = .free → ∃ c, env.cells.lookup y.1 = some c) → ∀ acc : List (Str × Addr), (∀ y c, (y, c) ∈ acc → env.cells.lookup y = some c) →
      ∃ cl, (forIn l acc (fun x r => (match x with | (name, kind) => if (kind == NameKind.free) = true then do
        let c ← cellOf env name
        pure (ForInStep.yield ((name, c) :: r)) else pure (ForInStep.yield r) : Sem (ForInStep (List (Str × Addr))))) : Sem (List (Str × Addr))) = pure cl ∧ (∀ y c, (y, c) ∈ cl → env.cells.lookup y = some c) ∧ (∀ p ∈ acc, p ∈ cl) ∧ ∀ y, (y, NameKind.free) ∈ l → ∃ c, (y, c) ∈ cl := by
    intro l
    induction l with
    | nil => intro _ acc ha; exact ⟨acc, rfl, ha, fun _ h => h, fun y h => nomatch h⟩
    | cons p r ih =>
      obtain ⟨nm, kd⟩ := p
      intro hl acc ha
      rw [List.forIn_cons]
      by_cases hk : kd = .free
      · subst hk
        obtain ⟨c, hc⟩ := hl _ List.mem_cons_self rfl
        have e : cellOf env nm = pure c := by unfold cellOf; rw [hc]
        obtain ⟨cl, c1, c2, c3, c4⟩ := ih (fun y hy => hl y (List.mem_cons_of_mem _ hy)) ((nm, c) :: acc) (fun y c' h => by
          rcases List.mem_cons.mp h with e | h
          · cases e; exact hc
          · exact ha y c' h)
        refine ⟨cl, ?_, c2, fun p hp => c3 p (List.mem_cons_of_mem _ hp), fun y h => ?_⟩
        · simp only [beq_self_eq_true, if_true, e]
          exact c1
        · rcases List.mem_cons.mp h with e | h
          · cases e; exact ⟨c, c3 _ List.mem_cons_self⟩
          · exact c4 y h
      · have hb : (kd == NameKind.free) = false := beq_eq_false_iff_ne.mpr hk
        obtain ⟨cl, c1, c2, c3, c4⟩ := ih (fun y hy => hl y (List.mem_cons_of_mem _ hy)) acc ha
        refine ⟨cl, ?_, c2, c3, fun y h => ?_⟩
        · simp only [hb, Bool.false_eq_true, if_false]
          exact c1
        · rcases List.mem_cons.mp h with e | h
          · cases e; exact absurd rfl hk
          · exact c4 y h
  obtain ⟨cl, c1, c2, c3, c4⟩ := go scope.names hf [] (fun y c h => nomatch h)
  refine ⟨cl, ?_, fun y c hy hc => ?_⟩
  · unfold closureFor
    exact (congrArg (fun x => x >>= pure) c1).trans rfl
  · obtain ⟨c', h'⟩ := c4 y hy
    have : c' = c := by have := c2 y c' h'; rw [hc] at this; cases this; rfl
    subst this
    exact og h' fun c'' h => by have := c2 y c'' h; rw [hc] at this; cases this; rfl
end
end Ap
end
section
set_option genSizeOf false
namespace Ap
open PySem PySem.Calls PyProof.Rows
section
variable {C : Cx} {T : Tabs} {P : Prg} {d : Nat} {sc : Scope} {nms nms' : List Str} {q : Bool} {A : Around} {V : Vo} {σ σ' : St} {ow ow' : Nat → Option Nat} {s s' : Shared} {env : Env}
theorem qb {prog : Program} {w : World} {R : Result → Shared → Prop} {elt target iter : Expr} {scope : Scope} {pos : Pos} {it acc : Value} (I : Nat → Shared → Prop)
    (turn : ∀ n s, I n s → wpAny (model prog w) A (pyNext it) (fun r s₁ => match r with
      | Option.none => R (.ok .next) s₁
      | some v => wpAny (model prog w) A (letOwnedTupleGo target it v) (fun _ s₂ => wpAny (model prog w) A (assign target env v) (fun _ s₃ => wpAny (model prog w) A (eval elt env) (fun x s₄ =>
          wpAny (model prog w) A (call (.builtin "list.append") [acc, x]) (fun _ s₅ => ∃ m, m < n ∧ I m s₅) (notedBy (model prog w) A env fun e s' => R (.error e) s') s₄)
          (notedBy (model prog w) A env fun e s' => R (.error e) s') s₃) (notedBy (model prog w) A env fun e s' => R (.error e) s') s₂) (notedBy (model prog w) A env fun e s' => R (.error e) s') s₁) (notedBy (model prog w) A env fun e s' => R (.error e) s') s)
    (n : Nat) (h : I n s) : codeAny (model prog w) A (.compLoop (.ListComp elt [⟨target, iter, [], 0⟩] scope pos) 0 it acc env) R s := by
  refine codeAny_loop rfl I (fun n s hI => ?_) n h
  show wpAny _ _ ((compTurn (.ListComp elt [⟨target, iter, [], 0⟩] scope pos) 0 it acc env).onRaise (fun x => do noteFrame x env; theTreesLotGoes x)) _ _ s
  refine wpAny_noted ?_
  rw [compTurn_list1]
  refine wpAny_bind (wpAny_standAt (wpAny_bind (wpAny_mono (turn n s hI) (fun r s₁ h₁ => ?_) fun _ _ h' => h')))
  cases r with
  | none => exact wpAny_pure h₁
  | some v =>
    refine wpAny_bind (wpAny_mono h₁ (fun _ s₂ h₂ => ?_) fun _ _ h' => h')
    exact wpAny_bind (wpAny_mono h₂ (fun _ s₃ h₃ => wpAny_bind (wpAny_bind (wpAny_mono h₃ (fun x s₄ h₄ => wpAny_bind (wpAny_mono h₄
      (fun _ s₅ h₅ => wpAny_pure (wpAny_pure ⟨rfl, h₅⟩)) fun _ _ h' => h')) fun _ _ h' => h'))) fun _ _ h' => h')
noncomputable def CapOk (C : Cx) (cenv : Env) (nms' : List Str) (V : Vo) (wr : List Addr) (ρ : Loc) (σ : St) (ow : Nat → Option Nat) (s : Shared) : Prop :=
  ∀ i v, gz ρ i = some v → ∃ y c val, nms'[i]? = some y ∧ VR C (Zs σ ow (zss V)) s.heap v val ∧ (cenv.kindOf y = some .cell ∨ cenv.kindOf y = some .free) ∧ cenv.cells.lookup y = some c ∧ s.heap.IsCell c (some val) ∧ ¬ Own σ ow c ∧ c ∉ wr
theorem CapOk.stp {cenv : Env} {wr : List Addr} {ρ : Loc} (k : CapOk C cenv nms' V wr ρ σ ow s) (x : Stp (frs V) (Own σ ow) (Own σ' ow') s s') : CapOk C cenv nms' V wr ρ σ' ow' s' := fun i v e => by
  obtain ⟨y, c, val, h1, h2, h3, h4, ⟨o, e1, e2⟩, h6, h7⟩ := k i v e
  obtain ⟨sl, e3⟩ := x.up h6 o e1
  exact ⟨y, c, val, h1, x.vr h2, h3, h4, ⟨_, e3, e2⟩, (fun z => (x.fresh _ z).elim h6 fun z => by rw [e1] at z; cases z), h7⟩
theorem CapOk.its {cenv : Env} {wr : List Addr} {ρ : Loc} {h' : Heap} {t : Nat} (k : CapOk C cenv nms' (V.plus wr) wr ρ σ ow s) (hk : ∀ b o, b ∉ wr → s.heap.get? b = some o → h'.get? b = some o) : CapOk C cenv nms' (V.plus wr) wr ρ σ ow { s with heap := h', toks := t } := fun i v e => by
  obtain ⟨y, c, val, h1, h2, h3, h4, ⟨o, e1, e2⟩, h6, h7⟩ := k i v e
  exact ⟨y, c, val, h1, h2.kp (fun b o e nb => hk b o (fun m => nb (.inr (Vo.plus_wr m))) e) (Zg.refl _ _), h3, h4, ⟨o, hk _ _ h7 e1, e2⟩, h6, h7⟩
theorem ur {caps : List Nat} {ρ : Loc} {i : Nat} {v : AV} (h : gz (dA caps ρ) i = some v) : i ∈ caps ∧ gz ρ i = some v := by
  unfold gz dA at h
  rw [List.getD_eq_getElem?_getD, List.getElem?_map, List.getElem?_zipIdx] at h
  unfold gz
  rw [List.getD_eq_getElem?_getD]
  cases e : ρ[i]? with
  | none => rw [e] at h; cases h
  | some o =>
    rw [e] at h
    have h' : (if caps.contains (0 + i) then o else Option.none) = some v := h
    rw [Nat.zero_add] at h'
    by_cases hc : caps.contains i = true
    · rw [if_pos hc] at h'
      exact ⟨List.contains_iff_mem.mp hc, h'⟩
    · rw [if_neg hc] at h'; cases h'
theorem uO (V : Vo) (a b : List Addr) : (V.plus a).plus b = V.plus (b ++ a) := by
  unfold Vo.plus
  rw [List.append_assoc]
theorem Good.adopt {D : Addr} {wr : List Addr} {xs : List AV} {vs : List Value} {n : Nat} (G : Good C (V.plus wr) σ ow s) (hD : D ∈ wr) (nV : D ∉ zss V) (e : s.heap.get? D = some (kA vs n)) (hz : vs.length ≤ 16777216) (r : VRs C (Zs σ ow (zss (V.plus wr))) s.heap xs vs) :
    Good C V (upd σ D (.list xs)) ow s := by
  have nO := G.off D (Vo.plus_wr hD)
  have ow1 : ∀ b, Own (upd σ D (.list xs)) ow b → Own σ ow b ∨ b = D := fun b z => fY z
  have zg : Zg (Zs σ ow (zss (V.plus wr))) (Zs (upd σ D (.list xs)) ow (zss V)) s.heap := fun b z => by
    rcases z with z | z
    · rcases ow1 b z with z | z
      · exact .inl (.inl z)
      · exact .inl (.inr (by rw [z]; exact Vo.plus_wr hD))
    · exact .inl (.inr (Vo.plus_sub b z))
  have oD : ow D = Option.none := by
    cases z : ow D with
    | none => rfl
    | some a => exact absurd (.inr (by rw [z]; rfl)) nO
  refine ⟨G.stays, G.frames, fun b m => G.apart b (List.mem_append_right _ m), fun b m => G.mem b (Vo.plus_sub b m), G.sub, fun b o' eb => ?_, fun b c eb => ?_, fun b eb => ?_, fun L hL z => ?_, G.gens⟩
  · by_cases z : b = D
    · subst z
      rw [iG] at eb
      cases eb
      exact ⟨vs, ⟨hz, n, e⟩, r.kp (fun _ _ e _ => e) zg⟩
    · rw [cQ σ _ z] at eb
      exact (G.store b o' eb).kp (fun _ _ e _ => e) zg rfl fun dx hd => ⟨rfl, hd⟩
  · obtain ⟨x1, x2, x3⟩ := G.parts b c eb
    refine ⟨?_, x2, x3⟩
    rw [cQ σ _ (fun q => by subst q; rw [oD] at eb; cases eb)]
    exact x1
  · by_cases z : b = D
    · subst z; exact (G.mem _ (Vo.plus_wr hD)).1
    · rw [cQ σ _ z] at eb; exact G.fresh b eb
  · rcases ow1 L z with z | z
    · exact G.off L (Vo.plus_sub L hL) z
    · subst z; exact nV hL
theorem Good.re (G : Good C V σ ow s) {V' : Vo} (hl : V'.l = V.l) (hf : V'.fs = V.fs) (hi : ∀ b, b ∈ V'.its ↔ b ∈ V.its) : Good C V' σ ow s := by
  have hz : ∀ b, b ∈ zss V' → b ∈ zss V := fun b m => by
    rcases List.mem_append.mp m with m | m
    · exact List.mem_append_left _ (hf ▸ m)
    · exact List.mem_append_right _ ((hi b).mp m)
  have zg : Zg (Zs σ ow (zss V)) (Zs σ ow (zss V')) s.heap := fun b z => .inl (z.imp id (hz b))
  refine ⟨G.stays, by rw [hl]; exact G.frames, fun b m n => G.apart b ((hi b).mp m) (hf ▸ n), fun b m => G.mem b (hz b m), by rw [hl, hf]; exact G.sub, fun b o e => ?_, G.parts, G.fresh, fun L m => G.off L (hz L m), G.gens⟩
  exact (G.store b o e).kp (fun _ _ e _ => e) zg rfl fun dx hd => ⟨rfl, hd⟩
theorem Stp.its {O O' : Nat → Prop} {s₀ : Shared} {wr : List Addr} {h' : Heap} {t : Nat} (x : Stp (frs V) O O' s₀ s) (nf : ∀ b ∈ V.fs, b ∉ wr) (k : ∀ b o, b ∉ wr → s.heap.get? b = some o → h'.get? b = some o) (fr : ∀ b ∈ wr, s₀.heap.get? b = Option.none) :
    Stp (frs V) O O' s₀ { s with heap := h', toks := t } where
  keep := fun b o e n m => k b o (fun w => by rw [fr b w] at e; cases e) (x.keep b o e n m)
  frm := fun b o e m => (x.frm b o e m).elim fun sl z => ⟨sl, k b _ (nf b m) z⟩
  grow := x.grow
  fresh := x.fresh
  gens := x.gens
  drawn := x.drawn
  os := x.os
theorem Stp.adopt {O : Nat → Prop} {fs : List Addr} {s₀ : Shared} {D : Addr} {o : AObj} (x : Stp fs O (Own σ ow) s₀ s) (fr : s₀.heap.get? D = Option.none) : Stp fs O (Own (upd σ D o) ow) s₀ s :=
  ⟨x.keep, x.frm, fun b z => sN (x.grow b z), fun b z => by
    rcases fY z with z | z
    · exact x.fresh b z
    · subst z; exact .inr fr, x.gens, x.drawn, x.os⟩
theorem xy {G : St → Prop} {B : AV → St → PQ → Prop} {xs acc : List AV} {R : List AV → St → Prop} (h : lT G B xs acc σ R) : G σ := by
  cases xs with
  | nil => exact h.1
  | cons x xs => exact h.1
noncomputable def pK (scope sc : Scope) (nms nms' : List Str) (caps : List Nat) : Bool :=
  scope.kind == .function && (scope.names.all fun y => !(y.2 == .cell) && (!(y.2 == .free) || caps.any fun i => nms[i]? == some y.1) && (!(y.2 == .local) || scope.names.lookup y.1 == some .local)) &&
  (caps.all fun i => nms'[i]? == nms[i]? && ((nms[i]?).map fun y => (scope.names.contains (y, NameKind.free)) && (sc.names.lookup y == some .cell || sc.names.lookup y == some .free) && ((nB scope sc).names.lookup y == some .cell || (nB scope sc).names.lookup y == some .free)) == some true)
structure CEnd (C : Cx) (V : Vo) (own : Bool) (Qa : PQ) (σ : St) (ow : Nat → Option Nat) (s : Shared) (D Cc : Addr) (σ₁ : St) (ow₁ : Nat → Option Nat) (s₁ : Shared) : Prop where
  ex : ∃ vs kk acc m, mY own Qa acc σ₁ ∧ s₁.heap.get? D = some (kA vs kk) ∧ VRs C (Zs σ₁ ow₁ (zss (V.plus [Cc, D]))) s₁.heap acc vs ∧ s₁.heap.Ns Cc m ∧ vs.length ≤ 16777216
  good : Good C (V.plus [Cc, D]) σ₁ ow₁ s₁
  stp : Stp (frs V) (Own σ ow) (Own σ₁ ow₁) s s₁
  ne : D ≠ Cc
  fr : ∀ b ∈ [Cc, D], s.heap.get? b = Option.none
theorem oB {own : Bool} {src : WX} {tb : TB} {caps : List Nat} {ew : WE} {elt iter target : Expr} {scope : Scope} {pos pos' : Pos} {use : Option (Value → Sem Unit)} (hS : SrcE C d sc nms false target iter src) (hE : Both C d (nB scope sc) nms' false ew elt) (hT : TgtOk C (nB scope sc) nms' target tb)
    (hk : pK scope sc nms nms' caps = true) (hset : jD iter = true) {ρ : Loc} {Qa : PQ} {Ea : PE} {Q : Value → Shared → Prop} {E : Value → Shared → Prop} (hs : env.scope = sc) (ha : AOk A V d) (w : cJ own src tb caps ew ρ σ Qa Ea) (ok : Ok C A false env V nms ρ σ ow s) (kx : KX C V σ ow s Ea E)
    (fin : ∀ D Cc σ₁ ow₁ s₁, CEnd C V own Qa σ ow s D Cc σ₁ ow₁ s₁ → compPost (model C.prog C.w) A E use Q (.ref D) Cc (.ok .next) s₁) :
    wpAny (model C.prog C.w) A (comprehension (.ListComp elt [⟨target, iter, [], 0⟩] scope pos) scope env pos' (newList []) false (eval iter env) use) Q E s := by
  obtain ⟨hc, w⟩ := w
  have hh := ok.hnd.none
  unfold pK at hk
  rw [Bool.and_eq_true, Bool.and_eq_true, beq_iff_eq] at hk
  obtain ⟨⟨hkind, hnm⟩, hcp⟩ := hk
  have hn1 : ∀ y ∈ scope.names, y.2 ≠ .cell ∧ (y.2 = .free → ∃ i ∈ caps, nms[i]? = some y.1) ∧ (y.2 = .local → scope.names.lookup y.1 = some .local) := fun y hy => by
    have := List.all_eq_true.mp hnm y hy
    rw [Bool.and_eq_true, Bool.and_eq_true, Bool.or_eq_true, Bool.or_eq_true, Bool.not_eq_true', Bool.not_eq_true', Bool.not_eq_true', beq_iff_eq] at this
    obtain ⟨⟨t1, t2⟩, t3⟩ := this
    refine ⟨(fun z => by rw [z] at t1; cases t1), fun z => ?_, fun z => t3.resolve_left (by rw [z]; decide)⟩
    obtain ⟨i, hi, e⟩ := List.any_eq_true.mp (t2.resolve_left (by rw [z]; decide))
    exact ⟨i, hi, beq_iff_eq.mp e⟩
  have hn2 : ∀ i ∈ caps, ∃ y v c val, (nms[i]? = some y ∧ nms'[i]? = some y ∧ (y, NameKind.free) ∈ scope.names ∧ ((nB scope sc).names.lookup y = some .cell ∨ (nB scope sc).names.lookup y = some .free)) ∧ gz ρ i = some v ∧ VR C (Zs σ ow (zss V)) s.heap v val ∧ env.cells.lookup y = some c ∧ s.heap.IsCell c (some val) ∧ ¬ Own σ ow c ∧ env.kindOf y ≠ some .local := fun i hi => by
    have h1 := List.all_eq_true.mp hcp i hi
    rw [Bool.and_eq_true, beq_iff_eq, beq_iff_eq, Option.map_eq_some_iff] at h1
    obtain ⟨e1, y, e2, h1⟩ := h1
    rw [Bool.and_eq_true, Bool.and_eq_true, Bool.or_eq_true, Bool.or_eq_true, beq_iff_eq, beq_iff_eq, beq_iff_eq, beq_iff_eq] at h1
    obtain ⟨⟨h1, h2⟩, h3⟩ := h1
    obtain ⟨v, e3⟩ := Option.isSome_iff_exists.mp (List.all_eq_true.mp hc i hi)
    obtain ⟨y', val, e4, r, l⟩ := ok.loc.val i v e3
    rw [e2] at e4
    cases e4
    have nl : env.kindOf y ≠ some .local := fun kd => by
      unfold Env.kindOf at kd
      rw [hs] at kd
      rcases h2 with h2 | h2 <;> rw [kd] at h2 <;> cases h2
    refine ⟨y, v, ?_⟩
    rcases l with ⟨kd, _⟩ | ⟨c, kd, hc', hv, ho⟩
    · exact absurd kd nl
    · exact ⟨c, val, ⟨e2, e1.trans e2, List.contains_iff_mem.mp h1, h3⟩, e3, r, hc', hv, ho, nl⟩
  obtain ⟨cl, hcl, hlk⟩ := sP (env := env) (scope := scope) fun y hy hf => by
    obtain ⟨i, hi, e⟩ := (hn1 y hy).2.1 hf
    obtain ⟨y', v, c, val, ⟨e1, _⟩, _, _, hc', _⟩ := hn2 i hi
    rw [e] at e1
    cases e1
    exact ⟨c, hc'⟩
  refine wpAny_comprehension_free (use := use) rfl (fun x => gi hset) hcl hkind (fun y hy => (hn1 y hy).2.2) ?_
  refine hS.snd A env V ρ hs ha σ ow s _ Ea _ E w ok kx fun I wr xs G inv σ' ow' s' z S st ko hi fr hlen => ?_
  refine wpAny_newObj_type (wpAny_newFunctionEnv (fun y hy => (hn1 y hy).1) (by intro y hy; simp at hy) (fun h₁ hns₁ hsb₁ => ?_) hkind)
  dsimp only at hns₁ hsb₁ ⊢
  generalize hH2 : s'.heap.push { cls := .type "list", dict := Option.none, data := .seq ([] : List Value).toArray } = H2 at hns₁ hsb₁ ⊢
  have hCs : H2.objs.size = s'.heap.objs.size + 1 := by rw [← hH2, Heap.size_push]
  have hDC : s'.heap.objs.size ≠ H2.objs.size := by rw [hCs]; exact Nat.ne_of_lt (Nat.lt_succ_self _)
  have below : ∀ b, b < s'.heap.objs.size → b ≠ H2.objs.size ∧ b ≠ s'.heap.objs.size := fun b hb => ⟨by rw [hCs]; exact Nat.ne_of_lt (Nat.lt_succ_of_lt hb), Nat.ne_of_lt hb⟩
  have old : ∀ b o, s'.heap.get? b = some o → h₁.get? b = some o := fun b o e => hsb₁.extBut b o (below b (Heap.lt_size e)).1 (Heap.get?_push_of_some _ (hH2 ▸ Heap.get?_push_of_some _ e))
  have hacc : h₁.get? s'.heap.objs.size = some (kA [] 0) := hsb₁.extBut _ _ hDC (Heap.get?_push_of_some _ (hH2 ▸ Heap.get?_push_size _ rfl))
  obtain ⟨D, hD⟩ : ∃ D, s'.heap.objs.size = D := ⟨_, rfl⟩
  obtain ⟨Cc, hCc⟩ : ∃ Cc, H2.objs.size = Cc := ⟨_, rfl⟩
  have frD : s'.heap.get? D = Option.none := by rw [← hD]; exact Heap.fresh _
  have frC : s'.heap.get? Cc = Option.none := by
    cases e : s'.heap.get? Cc with
    | none => rfl
    | some o => exact absurd hCc.symm (below Cc (Heap.lt_size e)).1
  rw [hD] at hDC hacc ⊢
  rw [hCc] at hDC hns₁ ⊢
  clear hD hCc hsb₁ below hCs hH2
  -- the vessel of the comprehension: its names, the list that it makes, what it runs over
  have e3 : (V.plus [Cc, D]).plus wr = V.plus (wr ++ [Cc, D]) := uO V _ _
  have frx : ∀ b ∈ [Cc, D], s'.heap.get? b = Option.none ∧ ∃ o, h₁.get? b = some o := fun b hb => by
    rcases List.mem_cons.mp hb with rfl | hb
    · obtain ⟨o, es, ep, e, _⟩ := hns₁
      exact ⟨frC, o, e⟩
    · rw [List.mem_singleton.mp hb]
      exact ⟨frD, _, hacc⟩
  have fr3 : ∀ b ∈ wr ++ [Cc, D], s.heap.get? b = Option.none := fun b hb => by
    rcases List.mem_append.mp hb with hb | hb
    · exact fr b hb
    · exact st.back rfl ko.good.close_ b (frx b hb).1
  have k0 := ko.close_
  have nfs : ∀ b ∈ V.fs, b ∉ wr ++ [Cc, D] := fun b m n => by
    obtain ⟨_, o, y⟩ := ok.good.mem b (V.sub b m)
    rw [fr3 b n] at y; cases y
  have nits : ∀ b ∈ wr ++ [Cc, D], b ∉ zss V := fun b m n => by
    obtain ⟨_, o, y⟩ := ok.good.mem b n
    rw [fr3 b m] at y; cases y
  have Cw : Cc ∉ wr := fun m => by
    obtain ⟨_, o, y⟩ := ko.good.mem Cc (Vo.plus_wr m)
    rw [frC] at y; cases y
  have Dw : D ∉ wr := fun m => by
    obtain ⟨_, o, y⟩ := ko.good.mem D (Vo.plus_wr m)
    rw [frD] at y; cases y
  generalize hce : compEnvC scope cl Cc env = cenv
  have cL : cenv.locals = Cc := by rw [← hce]; rfl
  have cS : cenv.scope = nB scope sc := by rw [← hce, ← hs]; rfl
  have cC : cenv.cells = cl := by rw [← hce]; rfl
  have cG : cenv.globals = mainGlobals := by rw [← hce]; exact ok.loc.glob
  have cB : cenv.builtins = builtinsNs := by rw [← hce]; exact ok.loc.blt
  have g3 : Good C (V.plus (wr ++ [Cc, D])) σ' ow' { s' with heap := h₁, toks := s'.toks + ([] : List (Str × Value)).length } :=
    (ko.good.open_ (wr := [Cc, D]) old frx).re rfl rfl fun b => by
      show b ∈ (wr ++ [Cc, D]) ++ V.its ↔ b ∈ [Cc, D] ++ (wr ++ V.its)
      simp only [List.mem_append]
      constructor
      · rintro ((h | h) | h)
        · exact .inr (.inl h)
        · exact .inl h
        · exact .inr (.inr h)
      · rintro (h | h | h)
        · exact .inl (.inr h)
        · exact .inl (.inl h)
        · exact .inr h
  have hi1 := S.wide V [Cc, D] 0 σ' ow' s' h₁ (s'.toks + ([] : List (Str × Value)).length) hi (fun b hb => (frx b hb).1) old
  have cap0 : CapOk C cenv nms' (V.plus (wr ++ [Cc, D])) (wr ++ [Cc, D]) (dA caps ρ) σ' ow' { s' with heap := h₁, toks := s'.toks + ([] : List (Str × Value)).length } := fun i v e => by
    obtain ⟨m1, m2⟩ := ur e
    obtain ⟨y, v', c, val, ⟨e1, e2, e4, e5⟩, e6, r, e7, ⟨o, e8, e9⟩, e10, nl⟩ := hn2 i m1
    obtain ⟨y', val', n1, r', l⟩ := ko.loc.val i v m2
    rw [e1] at n1
    cases n1
    have cN : c ∉ wr ++ [Cc, D] := fun m => by rw [fr3 c m] at e8; cases e8
    rcases l with ⟨kd, _⟩ | ⟨c', kd, hc', ⟨o', e11, e12⟩, ho⟩
    · exact absurd kd nl
    · rw [e7] at hc'
      cases hc'
      refine ⟨y, c, val', e2, r'.kp (fun b o e _ => old b o e) (fun b z => ?_), ?_, by rw [cC]; exact hlk y c e4 e7, ⟨_, old _ _ e11, e12⟩, ho, cN⟩
      · rcases z with z | z
        · exact .inl (.inl z)
        · rcases Vo.plus_mem z with z | z
          · exact .inl (.inr (Vo.plus_sub b z))
          · rcases List.mem_append.mp z with z | z
            · exact .inl (.inr (Vo.plus_wr z))
            · exact .inr (frx b z).1
      · unfold Env.kindOf
        rw [cS]
        exact e5
  have loop : codeAny (model C.prog C.w) A (.compLoop (.ListComp elt [⟨target, iter, [], 0⟩] scope pos) 0 (.ref I) (.ref D) cenv) (compPost (model C.prog C.w) A E use Q (.ref D) Cc) { s' with heap := h₁, toks := s'.toks + ([] : List (Str × Value)).length } := by
    refine qb (fun n s₁ => ∃ i acc vs σ₁ ow₁ m k, n = xs.length - i ∧ i ≤ xs.length ∧ inv (V.plus [Cc, D]) i σ₁ ow₁ s₁ ∧ Good C (V.plus (wr ++ [Cc, D])) σ₁ ow₁ s₁ ∧ s₁.heap.get? D = some (kA vs k) ∧ vs.length = i ∧ VRs C (Zs σ₁ ow₁ (zss (V.plus (wr ++ [Cc, D])))) s₁.heap acc vs ∧ s₁.heap.Ns Cc m ∧
      CapOk C cenv nms' (V.plus (wr ++ [Cc, D])) (wr ++ [Cc, D]) (dA caps ρ) σ₁ ow₁ s₁ ∧ Stp (frs V) (Own σ ow) (Own σ₁ ow₁) s s₁ ∧ lT G (sR tb ew (dA caps ρ)) (xs.drop i) acc σ₁ (mY own Qa)) ?_ xs.length
      ⟨0, [], [], σ', ow', _, 0, rfl, Nat.zero_le _, hi1, g3, hacc, rfl, .nil, hns₁, cap0, st.trans (Stp.ext old _), z⟩
    rintro n s₁ ⟨i, acc, vs, σ₁, ow₁, m, kk, rfl, hle, hi, g, hDo, hvl, hr, hns, cap, st1, w⟩
    have e4 : Good C ((V.plus [Cc, D]).plus wr) σ₁ ow₁ s₁ := by rw [e3]; exact g
    by_cases hlt : i < xs.length
    · have hd : xs.drop i = xs[i] :: xs.drop (i + 1) := List.drop_eq_getElem_cons hlt
      rw [hd] at w
      obtain ⟨hG, ρ', htb, w⟩ := w
      refine wpAny_mono ((S.it (V.plus [Cc, D])).next i xs[i] σ₁ ow₁ s₁ _ _ (List.getElem?_eq_getElem hlt) hi e4 hG ?_) (fun r s₁ h₁ => by
        cases r with
        | none => exact False.elim h₁
        | some v => exact h₁) fun _ _ z => z
      intro v h' tk r hi' hk lv
      rw [e3] at r
      have hns' : h'.Ns Cc m := hns.at' fun o e => hk _ _ Cw e
      have hk3 : ∀ b o, b ∉ wr ++ [Cc, D] → s₁.heap.get? b = some o → h'.get? b = some o := fun b o nb e => hk b o (fun m => nb (List.mem_append_left _ m)) e
      have hDo' : h'.get? D = some (kA vs kk) := hk _ _ Dw hDo
      have lv3 : ∀ b ∈ wr ++ [Cc, D], ∃ o, h'.get? b = some o := fun b hb => by
        rcases List.mem_append.mp hb with hb | hb
        · exact lv b hb
        · rcases List.mem_cons.mp hb with rfl | hb
          · obtain ⟨o, es, ep, e, _⟩ := hns'
            exact ⟨o, e⟩
          · rw [List.mem_singleton.mp hb]
            exact ⟨_, hDo'⟩
      have g' := g.its (t := tk) hk3 lv3
      refine hT A cenv (V.plus (wr ++ [Cc, D])) σ₁ ow₁ { s₁ with heap := h', toks := tk } xs[i] v m (dA caps ρ) ρ' _ _ hh cS (by rw [cL]; exact hns') r htb fun h₂ tk₂ m₂ hk₂ hns₂ hρ => ?_
      rw [cL] at hk₂ hns₂
      have hk23 : ∀ b o, b ∉ wr ++ [Cc, D] → h'.get? b = some o → h₂.get? b = some o := fun b o nb e => hk₂ b o (fun q => nb (List.mem_append_right _ (by rw [q]; exact List.mem_cons_self))) e
      have hDo₂ : h₂.get? D = some (kA vs kk) := hk₂ _ _ hDC hDo'
      have lv₂ : ∀ b ∈ wr ++ [Cc, D], ∃ o, h₂.get? b = some o := fun b hb => by
        by_cases q : b = Cc
        · subst q
          obtain ⟨o, es, ep, e, _⟩ := hns₂
          exact ⟨o, e⟩
        · obtain ⟨o, e⟩ := lv3 b hb
          exact ⟨o, hk₂ b o q e⟩
      have g₂ : Good C (V.plus (wr ++ [Cc, D])) σ₁ ow₁ { s₁ with heap := h₂, toks := tk₂ } := g'.its (t := tk₂) hk23 lv₂
      have cap₂ : CapOk C cenv nms' (V.plus (wr ++ [Cc, D])) (wr ++ [Cc, D]) (dA caps ρ) σ₁ ow₁ { s₁ with heap := h₂, toks := tk₂ } := (cap.its (t := tk) hk3).its (t := tk₂) hk23
      have hK₂ : Kp (Zs σ₁ ow₁ (zss (V.plus (wr ++ [Cc, D])))) h' h₂ := fun b o e nb => hk23 b o (fun m => nb (.inr (Vo.plus_wr m))) e
      have hi₂ := (S.it (V.plus [Cc, D])).move (i + 1) σ₁ ow₁ _ h₂ tk₂ hi' (by rw [e3]; exact g') fun b o hb e => hk₂ b o (fun q => Cw (by rw [← q]; exact hb (by rw [q]; exact List.mem_append_left _ List.mem_cons_self))) e
      have st₂ : Stp (frs V) (Own σ ow) (Own σ₁ ow₁) s { s₁ with heap := h₂, toks := tk₂ } := (st1.its (t := tk) nfs hk3 fr3).its (t := tk₂) nfs hk23 fr3
      have ok₂ : Ok C A false cenv (V.plus (wr ++ [Cc, D])) nms' ρ' σ₁ ow₁ { s₁ with heap := h₂, toks := tk₂ } := by
        refine ⟨g₂, ⟨by rw [cS]; exact hkind, cG, cB, by rw [cL]; exact g₂.off Cc (Vo.plus_wr (List.mem_append_right _ List.mem_cons_self)), fun j x hj => ?_⟩, .inl hh, ?_⟩
        · rcases hρ j x hj with e | ⟨y, val, n1, rv, lo, mv⟩
          · obtain ⟨y, c, val, h1, h2, h3, h4, h5, h6, h7⟩ := cap₂ j x e
            exact ⟨y, val, h1, h2, .inr ⟨c, h3, h4, h5, h6⟩⟩
          · exact ⟨y, val, n1, rv.kp hK₂ (Zg.refl _ _), .inl ⟨by unfold Env.kindOf; rw [cS]; exact lo, m₂, by rw [cL]; exact hns₂, mv⟩⟩
        · rw [cL]
          obtain ⟨o, es, ep, e, _⟩ := hns₂
          exact ⟨o, e⟩
      refine hE.ev A cenv (V.plus (wr ++ [Cc, D])) ρ' cS ha.plus σ₁ ow₁ _ _ eNo _ _ w ok₂ (fun y av σ₃ ow₃ s₃ z₃ st₃ g₃ r₃ => ?_) (fun e c σ₃ ow₃ s₃ z₃ => False.elim z₃)
      have DZ : D ∈ wr ++ [Cc, D] := List.mem_append_right _ (by simp)
      have CZ : Cc ∈ wr ++ [Cc, D] := List.mem_append_right _ (by simp)
      have kpz : ∀ b o, b ∈ wr ++ [Cc, D] → h₂.get? b = some o → s₃.heap.get? b = some o := fun b o hb e => st₃.keep b o e (g₂.off b (Vo.plus_wr hb)) fun z => nfs b z hb
      have hDo₃ := kpz D _ DZ hDo₂
      have z₃' : lT G (sR tb ew (dA caps ρ)) (xs.drop (i + 1)) (acc ++ [av]) σ₃ (mY own Qa) := z₃
      refine append_at (hsz := by rw [List.size_toArray]; unfold sizeLine; omega) hDo₃ fun h₄ hsb hDo₄ => ?_
      have hk₄ : ∀ b o, b ≠ D → s₃.heap.get? b = some o → h₄.get? b = some o := fun b o nb e => (hsb.2 b nb).trans e
      have hk43 : ∀ b o, b ∉ wr ++ [Cc, D] → s₃.heap.get? b = some o → h₄.get? b = some o := fun b o nb e => hk₄ b o (fun q => nb (q ▸ DZ)) e
      have hK₄ : Kp (Zs σ₃ ow₃ (zss (V.plus (wr ++ [Cc, D])))) s₃.heap h₄ := fun b o e nb => hk43 b o (fun m => nb (.inr (Vo.plus_wr m))) e
      have lv₄ : ∀ b ∈ wr ++ [Cc, D], ∃ o, h₄.get? b = some o := fun b hb => by
        by_cases q : b = D
        · subst q; exact ⟨_, hDo₄⟩
        · obtain ⟨o, e⟩ := lv₂ b hb
          exact ⟨o, hk₄ b o q (kpz b o hb e)⟩
      have hi₃ := (S.it (V.plus [Cc, D])).step [] (i + 1) σ₁ ow₁ _ σ₃ ow₃ s₃ hi₂ (by rw [e3]; exact g₂) st₃.toS (by rw [e3]; exact g₃) (xy z₃')
      have hi₄ := (S.it (V.plus [Cc, D])).move (i + 1) σ₃ ow₃ s₃ h₄ s₃.toks hi₃ (by rw [e3]; exact g₃) fun b o hb e => hk₄ b o (fun q => Dw (by rw [← q]; exact hb (by rw [q]; exact List.mem_append_left _ (by simp)))) e
      have hr₃ : VRs C (Zs σ₃ ow₃ (zss (V.plus (wr ++ [Cc, D])))) s₃.heap acc vs := st₃.vrs (((hr.kp (fun b o e nb => hk3 b o (fun m => nb (.inr (Vo.plus_wr m))) e) (Zg.refl _ _) : VRs C _ h' acc vs)).kp hK₂ (Zg.refl _ _))
      refine ⟨xs.length - (i + 1), by omega, i + 1, acc ++ [av], vs ++ [y], σ₃, ow₃, m₂, kk + 1, rfl, hlt, hi₄, g₃.its hk43 lv₄, by rw [hDo₄]; simp, by rw [List.length_append, hvl]; rfl, VRs.append (.cons (r₃.kp hK₄ (Zg.refl _ _)) .nil) (hr₃.kp hK₄ (Zg.refl _ _)), ?_, (cap₂.stp st₃).its hk43, (st₂.trans st₃).its nfs hk43 fr3, z₃'⟩
      exact (hns₂.at' fun o e => kpz Cc o CZ e : s₃.heap.Ns Cc m₂).at' fun o e => hk₄ _ _ (Ne.symm hDC) e
    · have he : i = xs.length := by omega
      subst he
      rw [List.drop_length] at w
      obtain ⟨hG, w⟩ := w
      refine (S.it (V.plus [Cc, D])).done σ₁ ow₁ s₁ _ _ hi e4 (.inl hh) hG fun h' tk hk => ?_
      have g2 : Good C (V.plus [Cc, D]) σ₁ ow₁ { s₁ with heap := h', toks := tk } := e4.drop (fun b hb n => by
        rcases List.mem_append.mp n with n | n
        · rcases List.mem_cons.mp n with n | n
          · exact Cw (n ▸ hb)
          · exact Dw (List.mem_singleton.mp n ▸ hb)
        · exact nits b (List.mem_append_left _ hb) (List.mem_append_right _ n)) hk
      have zg : Zg (Zs σ₁ ow₁ (zss (V.plus (wr ++ [Cc, D])))) (Zs σ₁ ow₁ (zss (V.plus [Cc, D]))) s₁.heap := fun b z => .inl (z.imp id fun z => by
        rcases Vo.plus_mem z with z | z
        · exact Vo.plus_sub b z
        · exact Vo.plus_wr (List.mem_append_right _ z))
      exact fin D Cc σ₁ ow₁ _ ⟨⟨vs, kk, acc, m, w, hk _ _ Dw hDo, hr.kp (fun b o e nb => hk b o (fun m => nb (.inr (Vo.plus_wr (List.mem_append_left _ m)))) e) zg, hns.at' fun o e => hk _ _ Cw e, by omega⟩, g2, st1.its (fun b hb m => nfs b hb (List.mem_append_left _ m)) hk fun b hb => fr3 b (List.mem_append_left _ hb), hDC, fun b hb => fr3 b (List.mem_append_right _ hb)⟩
  rw [← hce] at loop
  exact codeAny_compStart_list loop ((S.it (V.plus [Cc, D])).self 0 σ' ow' _ _ _ hi1 (by rw [e3]; exact g3) loop)
theorem CEnd.val {own : Bool} {Qa : PQ} {D Cc : Addr} {σ₁ : St} {ow₁ : Nat → Option Nat} {s₁ : Shared} (x : CEnd C V own Qa σ ow s D Cc σ₁ ow₁ s₁) (G : Good C V σ ow s) :
    ∃ av σ₂, Qa av σ₂ ∧ Stp (frs V) (Own σ ow) (Own σ₂ ow₁) s s₁ ∧ Good C (V.plus [Cc]) σ₂ ow₁ s₁ ∧ VR C (Zs σ₂ ow₁ (zss (V.plus [Cc]))) s₁.heap av (.ref D) := by
  obtain ⟨⟨vs, kk, acc, m, w, hD, r, _, hz⟩, g, st, ne, fr⟩ := x
  have gD : Good C ((V.plus [Cc]).plus [D]) σ₁ ow₁ s₁ := g.re rfl rfl fun b => by
    show b ∈ [D] ++ ([Cc] ++ V.its) ↔ b ∈ [Cc, D] ++ V.its
    simp only [List.mem_append, List.mem_cons, List.not_mem_nil, or_false]
    constructor
    · rintro (h | h | h)
      · exact .inl (.inr h)
      · exact .inl (.inl h)
      · exact .inr h
    · rintro ((h | h) | h)
      · exact .inr (.inl h)
      · exact .inl h
      · exact .inr (.inr h)
  have zz : ∀ b, Zs σ₁ ow₁ (zss ((V.plus [Cc]).plus [D])) b → Zs σ₁ ow₁ (zss (V.plus [Cc, D])) b := fun b z => z.imp id fun z => by
    rcases Vo.plus_mem z with z | z
    · rcases Vo.plus_mem z with z | z
      · exact Vo.plus_sub b z
      · exact Vo.plus_wr (by rw [List.mem_singleton.mp z]; simp)
    · exact Vo.plus_wr (by rw [List.mem_singleton.mp z]; simp)
  have r' : VRs C (Zs σ₁ ow₁ (zss ((V.plus [Cc]).plus [D]))) s₁.heap acc vs := r.kp (fun _ _ e _ => e) fun b z => .inl (zz b z)
  have frD : s.heap.get? D = Option.none := fr D (by simp)
  have nV : D ∉ zss (V.plus [Cc]) := fun m => by
    rcases Vo.plus_mem m with m | m
    · obtain ⟨_, o, y⟩ := G.mem D m
      rw [frD] at y; cases y
    · exact ne (List.mem_singleton.mp m)
  have nO : ¬ Own σ₁ ow₁ D := gD.off D (Vo.plus_wr (by simp))
  cases own with
  | false => exact ⟨.ilist acc, σ₁, w, st, gD.close_, .ilist ⟨hz, kk, hD⟩ (fun z => z.elim nO nV) (r'.kp (fun _ _ e _ => e) fun b z => .inl (dE z))⟩
  | true =>
    have sD : σ₁ D = Option.none := by
      cases e : σ₁ D with
      | none => rfl
      | some o => exact absurd (.inl (by rw [e]; rfl)) nO
    exact ⟨.obj D, _, w D sD, st.adopt frD, gD.adopt (by simp) nV hD hz r', .obj D⟩
theorem Both.comp {own : Bool} {src : WX} {tb : TB} {caps : List Nat} {ew : WE} {elt iter target : Expr} {scope : Scope} {pos : Pos} (hS : SrcE C d sc nms false target iter src) (hE : Both C d (nB scope sc) nms' false ew elt) (hT : TgtOk C (nB scope sc) nms' target tb)
    (hk : pK scope sc nms nms' caps = true) (hset : jD iter = true) : Both C d sc nms false (cJ own src tb caps ew) (.ListComp elt [⟨target, iter, [], 0⟩] scope pos) :=
  .of rfl fun A env V ρ hs ha σ ow s Qa Ea Q E w ok kv kx => by
    rw [eval_ListComp]
    refine oB (use := Option.none) hS hE hT hk hset hs ha w ok kx fun D Cc σ₁ ow₁ s₁ x => ?_
    obtain ⟨av, σ₂, w', st, g, r⟩ := x.val ok.good
    obtain ⟨_, _, _, m, _, _, _, hns, _⟩ := x.ex
    have frC : s.heap.get? Cc = Option.none := x.fr Cc (by simp)
    have nf : ∀ b ∈ V.fs, b ∉ [Cc] := fun b m n => by
      obtain ⟨_, o, y⟩ := ok.good.mem b (V.sub b m)
      rw [List.mem_singleton.mp n, frC] at y; cases y
    have nz : ∀ b ∈ [Cc], b ∉ V.its := fun b m n => by
      obtain ⟨_, o, y⟩ := ok.good.mem b (List.mem_append_right _ n)
      rw [List.mem_singleton.mp m, frC] at y; cases y
    refine ⟨m, hns, fun h' hsb => ?_⟩
    have hk' : ∀ b o, b ∉ [Cc] → s₁.heap.get? b = some o → h'.get? b = some o := fun b o nb e => hsb.extBut b o (fun q => nb (by rw [q]; simp)) e
    exact kv _ _ σ₂ ow₁ _ w' (st.its (t := s₁.toks) nf hk' fun b m => by rw [List.mem_singleton.mp m]; exact frC) (g.drop nz hk') (r.kp (fun b o e nb => hk' b o (fun m => nb (.inr (Vo.plus_wr m))) e) fun b z => .inl (dE z))
noncomputable def vM (scope sc : Scope) (n : Str) (l1 l2 : Nat) : Bool := sc.names.lookup n == some .local && l1 == l2 && !(scope.names.any fun p => p.1 == n && (p.2 == .local || p.2 == .cell))
theorem BothS.assignComp {own : Bool} {src : WX} {tb : TB} {caps : List Nat} {ew : WE} {elt iter target : Expr} {scope : Scope} {pos np spos : Pos} {x : Nat} {n : Str} (hS : SrcE C d sc nms false target iter src) (hE : Both C d (nB scope sc) nms' false ew elt) (hT : TgtOk C (nB scope sc) nms' target tb)
    (hk : pK scope sc nms nms' caps = true) (hset : jD iter = true) (hn : nms[x]? = some n) (hsw : vM scope sc n np.line pos.line = true) :
    BothS C d sc nms false (au x (cJ own src tb caps ew)) (.Assign [.Name n np] (.ListComp elt [⟨target, iter, [], 0⟩] scope pos) spos) where
  snd := fun A env V outer hF hs ha ρ σ ow s Qa Ea Q E w k ks kx => by
    have hsw' : swapsWith (.ListComp elt [⟨target, iter, [], 0⟩] scope pos) (some (.Name n np)) spos.line env = pure true := by
      unfold vM at hsw
      rw [Bool.and_eq_true, Bool.and_eq_true, beq_iff_eq, beq_iff_eq] at hsw
      obtain ⟨⟨h1, h2⟩, h3⟩ := hsw
      have e1 : env.kindOf n = some .local := by unfold Env.kindOf; rw [hs]; exact h1
      have e2 : env.blockKind = .function := by unfold Env.blockKind; rw [hF.kind]; rfl
      show (pure (env.blockKind == .function && env.kindOf n == some .local && np.line == pos.line && !(scope.names.any fun p => p.1 == n && (p.2 == .local || p.2 == .cell))) : Sem Bool) = pure true
      rw [e1, e2, h2, h3, beq_self_eq_true, beq_self_eq_true, beq_self_eq_true]
      rfl
    rw [exec_Assign_Name_used _ _ _ _ hsw']
    refine wpAny_bind (wpAny_standAt (wpAny_bind ?_))
    refine wpAny_bind (wpAny_mono (oB (use := some (PySem.assign (PySem.Expr.Name n np) env)) (Q := fun _ s' => Q .next s') hS hE hT hk hset hs ha w k.ok (kx.toE hF k) fun D Cc σ₁ ow₁ s₁ x => ?_) (fun _ s' hq => wpAny_pure (wpAny_pure hq)) fun _ _ e => e)
    obtain ⟨av, σ₂, w', st, g, r⟩ := x.val k.ok.good
    obtain ⟨_, _, _, m, _, _, _, hns, _⟩ := x.ex
    have frC : s.heap.get? Cc = Option.none := x.fr Cc (by simp)
    have nf : ∀ b ∈ V.fs, b ∉ [Cc] := fun b m n => by
      obtain ⟨_, o, y⟩ := k.ok.good.mem b (V.sub b m)
      rw [List.mem_singleton.mp n, frC] at y; cases y
    have nz : ∀ b ∈ [Cc], b ∉ V.its := fun b m n => by
      obtain ⟨_, o, y⟩ := k.ok.good.mem b (List.mem_append_right _ n)
      rw [List.mem_singleton.mp m, frC] at y; cases y
    have k0 := k.stp hF st g.close_
    have l0 : LocOk C env nms (zss (V.plus [Cc])) (Own σ ow) s.heap ρ := ⟨k.ok.loc.kind, k.ok.loc.glob, k.ok.loc.blt, k.ok.loc.offL, fun j w e => by
      obtain ⟨y, val, ey, ry, ly⟩ := k.ok.loc.val j w e
      refine ⟨y, val, ey, ry.kp (fun _ _ e _ => e) (fun b z => ?_), ly⟩
      rcases z with z | z
      · exact .inl (.inl z)
      · rcases Vo.plus_mem z with z | z
        · exact .inl (.inr z)
        · exact .inr (by rw [List.mem_singleton.mp z]; exact frC)⟩
    have k1 : SOk C A false env (V.plus [Cc]) nms ρ σ₂ ow₁ s₁ := ⟨⟨g, LocOk.stp (envs := V.plus [Cc]) st l0 k.ok.live, .inl k.ok.hnd.none, k0.ok.live⟩, k0.ns, k0.cells⟩
    refine assign_Name (dC hF.plus hn k1 r fun s'' st' k' => ?_)
    have nO : ¬ Own σ₂ ow₁ Cc := g.off Cc (Vo.plus_wr (by simp))
    refine ⟨m, hns.at' fun o e => st'.keep Cc o e nO fun q => nf Cc q (by simp), fun h' hsb => ?_⟩
    have hk' : ∀ b o, b ∉ [Cc] → s''.heap.get? b = some o → h'.get? b = some o := fun b o nb e => hsb.extBut b o (fun q => nb (by rw [q]; simp)) e
    exact ks _ _ _ σ₂ ow₁ _ w' (SStp.its (t := s''.toks) (st.toS.trans st') nf hk' fun b m => by rw [List.mem_singleton.mp m]; exact frC) (k'.drop hF nz hk') .next
end
end Ap
end
section
set_option genSizeOf false
namespace Ap
open PySem PySem.Calls PyProof.Rows
noncomputable def nu : ON := fun vs σ Q => ∃ x : Str, vs = [.str x] ∧ x.length ≤ 1000000 ∧ Q (.int x.length) σ
noncomputable def yQ : O2 := fun a b σ Q => ∃ (x : Str) (i : Int), a = .str x ∧ b = .int i ∧ (0 ≤ i ∧ i < x.length ∧ x.length ≤ 1000000) ∧ ∀ y : Str, y.length = 1 → Q (.str y) σ
noncomputable def rcS : AV → St → Prop := fun v σ => ∃ x : Str, v = .str x
noncomputable def zi : OM := fun v vs σ Q => ∃ (x : Str) (ys : List Str), v = .str x ∧ vs = [.ilist (ys.map .str)] ∧ (x.length = 0 ∧ (∀ y ∈ ys, y.length = 1) ∧ ys.length ≤ 1000) ∧ ∀ y : Str, y.length = ys.length → Q (.str y) σ
noncomputable def tQ : ON := fun vs σ Q => ∃ a b, vs = [.int a, .int b] ∧ Q (.int (if b < a then b else a)) σ
noncomputable def oList (own : Bool) : ON := fun vs σ Q => ∃ v xs, vs = [v] ∧ dS σ v = some xs ∧ mkL own xs σ Q
noncomputable def whN (c : WE) (body : WS) (E : ES) : Nat → Loc → St → QS → Prop
  | 0 => fun _ _ _ => False
  | n + 1 => fun ρ σ Q => c ρ σ (onT fun t σ₂ => match t with
    | true => body ρ σ₂ (kFL (whN c body E n) Q) E
    | false => Q .next ρ σ₂) eNo
noncomputable def vc (c : WE) (body : WS) : WS := fun ρ σ Q E => ∃ n, whN c body E n ρ σ Q
section
variable {C : Cx} {T : Tabs} {P : Prg} {d : Nat} {sc : Scope} {nms : List Str} {q : Bool}
theorem oG {x : Str} (ok : PyData.strOk x = true) {ys : List Nat} (hs : ∀ c ∈ ys, c ∈ x.cps.toList) : PyData.strOk ⟨ys.toArray⟩ = true := by
  unfold PyData.strOk at *
  rw [Array.all_eq_true_iff_forall_mem] at *
  intro c hc
  exact ok c (by rw [← Array.mem_toList_iff]; exact hs c (by simpa using hc))
theorem ny (x : String) : PyData.strOk (Str.ofString x) = true := by
  unfold PyData.strOk
  rw [Array.all_eq_true_iff_forall_mem]
  intro c hc
  rw [Str.ofString_eq_toList] at hc
  simp at hc
  obtain ⟨ch, _, rfl⟩ := hc
  have h : ch.val.toNat.isValidChar := ch.valid
  unfold Nat.isValidChar at h
  refine decide_eq_true ?_
  show ch.val.toNat < _
  omega
theorem xM : fL C true (.builtin "len") nu := by
  intro A envs σ ow s Qa Q E vs vals hq g k r w
  obtain ⟨x, rfl, hl, w⟩ := w
  cases r with | cons r1 r2 =>
  cases r2; cases r1
  exact P.len_str (by omega) (k.val g _ w (.int _ _))
theorem Bl : kQ C yQ := by
  intro A envs σ ow s Qa Q E va vb a b value slice hp g k ra rb w
  obtain ⟨x, i, rfl, rfl, ⟨h0, h1, h2⟩, w⟩ := w
  cases ra with | str _ u ok =>
  cases rb
  have hlt : i.toNat < x.cps.size := by have : x.length = x.cps.size := rfl; omega
  refine tail_any (typeIs_str s x u) slot_str_getitem.lookup (PyProof.Rows.getItem_str (c := x.cps[i.toNat]) (by simp; omega) ?_ (k.val g _ (w _ rfl) (.str _ _ (oG (ys := [x.cps[i.toNat]]) ok (by simp))))) (hp _ _)
  rw [show seqIndex? i x.length = some i.toNat from kr h0 hlt]
  exact Array.getElem?_eq_getElem hlt
theorem Both.ite {c a b : WE} {y z u : Expr} {pos : Pos} (hc : Both C d sc nms q c y) (h1 : Both C d sc nms q a z) (h2 : Both C d sc nms q b u) : Both C d sc nms q (CT c a b) (.IfExp y z u pos) where
  ev := fun A env envs ρ hs ha σ ow s Qa Ea Q E w ok kv kx => by
    refine wpAny_IfExp (hc.tr A env envs ρ hs ha σ ow s _ Ea _ E w ok (fun v t σ' ow' s' z st g r => ?_) kx)
    have r' : t = v := r
    subst r'
    cases t with
    | true => exact h1.ev A env envs ρ hs ha σ' ow' s' _ Ea _ E z (ok.stp st g) (kv.stp st) (kx.stp st g)
    | false => exact h2.ev A env envs ρ hs ha σ' ow' s' _ Ea _ E z (ok.stp st g) (kv.stp st) (kx.stp st g)
  tr := fun A env envs ρ hs ha σ ow s Qa Ea Q E w ok kv kx => by
    rw [arm_isTrue_IfExp]
    refine wpAny_bind (hc.tr A env envs ρ hs ha σ ow s _ Ea _ E w ok (fun v t σ' ow' s' z st g r => ?_) kx)
    have r' : t = v := r
    subst r'
    cases t with
    | true => exact h1.tr A env envs ρ hs ha σ' ow' s' _ Ea _ E z (ok.stp st g) (kv.stp st) (kx.stp st g)
    | false => exact h2.tr A env envs ρ hs ha σ' ow' s' _ Ea _ E z (ok.stp st g) (kv.stp st) (kx.stp st g)
theorem BothS.whil {c : WE} {y : Expr} {body : WS} {xs : List Stmt} {pos : Pos} (hc : Both C d sc nms q c y) (hB : BothB C d sc nms q body xs) : BothS C d sc nms q (vc c body) (.While y xs [] pos) where
  snd := fun A env V outer hF hs ha ρ σ ow s Qa Ea Q E w k ks kx => by
    obtain ⟨n, w⟩ := w
    refine wpAny_While (codeAny_whileLoop (fun m s' => ∃ ρ' σ' ow', whN c body Ea m ρ' σ' Qa ∧ SOk C A q env V nms ρ' σ' ow' s' ∧ SStp (dL env) V.fs (Own σ ow) (Own σ' ow') s s') ?_ n ⟨ρ, σ, ow, w, k, SStp.refl _ _ _ _⟩)
    rintro m s' ⟨ρ', σ', ow', w, k', st⟩
    cases m with
    | zero => exact False.elim w
    | succ m =>
      refine hc.tr A env V ρ' hs ha σ' ow' s' _ _ _ _ w k'.ok (fun v b σ₂ ow₂ s₂ z st₂ g₂ r => ?_) (fun e c σ₂ ow₂ s₂ z => False.elim z)
      have r' : b = v := r
      subst r'
      have k₂ := k'.stp hF st₂ g₂
      have st₂' := st.trans st₂.toS
      cases b with
      | false => exact wpAny_execs_nil (ks _ _ ρ' σ₂ ow₂ s₂ z st₂' k₂ .next)
      | true =>
        refine hB.snd A env V outer hF hs ha ρ' σ₂ ow₂ s₂ _ Ea _ _ z k₂ (fun fl af ρ₃ σ₃ ow₃ s₃ z st₃ k₃ rf => ?_) (fun e c ρ₃ σ₃ ow₃ s₃ z st₃ k₃ th => ?_)
        · cases rf with
          | next => exact ⟨m, Nat.lt_succ_self _, ρ₃, σ₃, ow₃, z, k₃, st₂'.trans st₃⟩
          | ret r' => exact ks _ _ ρ₃ σ₃ ow₃ s₃ z (st₂'.trans st₃) k₃ (.ret r')
        · exact oL hF ha.frames k.ok.good.stays (st₂'.trans st₃) k₃ (ThrA.up (st₂'.back g₂) th) z kx
theorem yN : fL C false (.builtin "min") tQ := by
  intro A envs σ ow s Qa Q E vs vals hq g k r w
  obtain ⟨a, b, rfl, w⟩ := w
  cases r with | cons r1 r2 =>
  cases r2 with | cons r2 r3 =>
  cases r3; cases r1; cases r2
  refine min_two_ints (hq rfl) fun h' tk e => ?_
  by_cases hc : b < a
  · rw [if_pos hc] at w ⊢; exact k.grown g e w (.int _ _)
  · rw [if_neg hc] at w ⊢; exact k.grown g e w (.int _ _)
theorem oh {envs : Vo} {σ : St} {ow : Nat → Option Nat} {s : Shared} {Qa : PQ} {Q : Value → Shared → Prop} {own : Bool} {xs : List AV} {vs : List Value} {h' : Heap} {t n : Nat} (g : Good C envs σ ow s) (k : KV C envs σ ow s (RV C) Qa Q) (e : ∀ b o, s.heap.get? b = some o → h'.get? b = some o) {a : Addr} (na : s.heap.get? a = Option.none)
    (ha : h'.get? a = some (kA vs n)) (hz : vs.length ≤ 16777216) (w : mkL own xs σ Qa) (r : VRs C (Zs σ ow (zss envs)) s.heap xs vs) : Q (.ref a) { s with heap := h', toks := t } := by
  have li : IsL h' a vs := ⟨hz, n, ha⟩
  have nf : a ∉ zss envs := fun m => by
    obtain ⟨_, o, e'⟩ := g.mem _ m
    rw [na] at e'; cases e'
  have no : ¬ Own σ ow a := fun q => by obtain ⟨o, z⟩ := g.live q; rw [na] at z; cases z
  have sx : σ a = Option.none := by
    cases z : σ a with
    | none => rfl
    | some o => exact absurd (.inl (by rw [z]; rfl)) no
  cases own with
  | false => exact k.grown g e w (.ilist li (fun q => q.elim no nf) (r.kp (fun b o z _ => e b o z) (Zg.refl _ _)))
  | true => exact k _ _ _ ow _ (w a sx) (Stp.alloc e na t) (g.alloc (o := .list xs) e na nf ha ⟨vs, li, r.kp (fun b o z _ => e b o z) (mW (.inl na))⟩ t) (.obj _)
theorem yo {own : Bool} : fL C true (.type "list") (oList own) := by
  intro A envs σ ow s Qa Q E vs vals hq g k r w
  obtain ⟨v, xs, rfl, e, w⟩ := w
  cases r with | cons r1 r2 =>
  cases r2
  obtain ⟨l, vs, rfl, ⟨hz, n, e'⟩, rr, _⟩ := lk g r1 e
  refine call_list_seq l (.inl rfl) e' rfl rfl (fun h' c' e ha => ?_) (by rw [List.size_toArray]; unfold sizeLine; omega)
  obtain ⟨hh, gg, dd, tt, oo⟩ := s
  exact oh (n := c') g k e (Heap.fresh _) ha hz w rr
theorem xN {Z : Nat → Prop} {h : Heap} : ∀ {ys : List Str} {vs : List Value}, VRs C Z h (ys.map .str) vs → StrsAre vs ys ∧ ∀ y ∈ ys, PyData.strOk y = true := by
  intro ys
  induction ys with
  | nil => intro vs r; cases r; exact ⟨.nil, fun y h => nomatch h⟩
  | cons b bs ih =>
    intro vs r
    cases r with | cons hd tl =>
    cases hd with | str _ t ok =>
    exact ⟨.cons _ _ (ih tl).1, fun y hy => (List.mem_cons.mp hy).elim (fun e => e ▸ ok) ((ih tl).2 y)⟩
theorem BB (x : Str) (hx : x.length = 0) : ∀ ys : List Str, (Str.join x ys).length = (ys.map (·.length)).sum ∧ ((∀ y ∈ ys, PyData.strOk y = true) → PyData.strOk (Str.join x ys) = true) := by
  intro ys
  have xo : PyData.strOk x = true := by
    unfold PyData.strOk
    rw [Array.all_eq_true_iff_forall_mem, Array.eq_empty_of_size_eq_zero hx]
    intro c hc; cases Array.not_mem_empty _ hc
  induction ys with
  | nil => exact ⟨rfl, fun _ => by unfold Str.join PyData.strOk Str.empty; simp⟩
  | cons y ys ih =>
    cases ys with
    | nil => exact ⟨by simp [Str.join], fun h => h y List.mem_cons_self⟩
    | cons z zs =>
      refine ⟨?_, fun h => ?_⟩
      · show ((y ++ x) ++ Str.join x (z :: zs)).length = _
        rw [Str.length_append, Str.length_append, ih.1, hx, List.map_cons, List.sum_cons]
        rfl
      · exact gF (gF (h y List.mem_cons_self) xo) (ih.2 fun w hw => h w (List.mem_cons_of_mem _ hw))
theorem xG : BmOk C true (Str.ofString "join") rcS zi := by
  refine ⟨⟨"str", "str.join", ⟨F.plainAttrs_str, F.slot_str_join, F.type_str_join⟩, fun envs σ ow s v u g r w => ?_, fun A envs σ ow s Qa Q E v u vs vals hq g k r rs w => ?_⟩⟩
  · obtain ⟨x, rfl⟩ := w
    cases r
    exact ⟨typeIs_str _ _ _, fun a e => by cases e⟩
  · obtain ⟨x, ys, rfl, rfl, ⟨hx, h1, hl⟩, w⟩ := w
    cases r
    cases rs with | cons r1 r2 =>
    cases r2
    cases r1 with | ilist li off r =>
    obtain ⟨sa, so⟩ := xN r
    have hsum : (ys.map (·.length)).sum = ys.length := by
      clear w r sa so hl
      induction ys with
      | nil => rfl
      | cons y ys ih => rw [List.map_cons, List.sum_cons, h1 y List.mem_cons_self, ih (fun z hz => h1 z (List.mem_cons_of_mem _ hz)), List.length_cons]; omega
    refine join_list li.isList (by simpa using sa) (by rw [hx, hsum]; omega) fun t' tk => ?_
    have e : Txt.join x ys = Str.join x ys := StrLaws.glued_eq_join x ys
    obtain ⟨j1, j2⟩ := BB x hx ys
    rw [e]
    exact k.val g tk (w _ (j1.trans hsum)) (.str _ _ (j2 so))
end
end Ap
end
section
set_option genSizeOf false
namespace Ap
open PySem PySem.Calls PyProof.Rows
noncomputable def un2 : AV → Option (AV × AV)
  | .tup [a, b] => some (a, b)
  | _ => Option.none
noncomputable def tb2 (i j : Nat) : TB := fun v ρ => (un2 v).map fun p => setL (setL ρ i p.1) j p.2
noncomputable def yK (i j : Nat) (body : WS) (E : ES) : AV → Loc → St → QS → Prop := fun v ρ σ R => ∃ a b, v = .tup [a, b] ∧ body (setL (setL ρ i a) j b) σ R E
noncomputable def rZ (i j : Nat) (body : WS) (ρ : Loc) (Q : QS) (E : ES) : List AV → (St → Prop) → St → Prop := fun xs G σ => forL G (yK i j body E) xs ρ σ Q
noncomputable def qe (i j : Nat) (src : WX) (body : WS) : WS := fun ρ σ Q E => src ρ σ (rZ i j body ρ Q E) (kE E ρ)
noncomputable def lV (xs : List AV) : List AV := xs.zipIdx.map fun p => .tup [.int p.2, p.1]
noncomputable def kXE (K : List AV → (St → Prop) → St → Prop) : List AV → St → Prop := fun vs σ => ∃ xs, vs = [.ilist xs] ∧ K (lV xs) (fun _ => True) σ
noncomputable def wf (es : WL) : WX := fun ρ σ K E => es ρ σ (kXE K) E
section
variable {C : Cx} {T : Tabs} {P : Prg} {d : Nat} {sc : Scope} {nms nms' : List Str} {q : Bool} {A : Around} {V : Vo} {σ σ' : St} {ow ow' : Nat → Option Nat} {s s' : Shared} {env : Env} {outer : List Env}
theorem xC {v : AV} {p : AV × AV} (h : un2 v = some p) : v = .tup [p.1, p.2] := by
  cases v with
  | tup xs =>
    cases xs with
    | nil => cases h
    | cons a xs =>
      cases xs with
      | nil => cases h
      | cons b xs =>
        cases xs with
        | nil => cases h; rfl
        | cons c xs => cases h
  | _ => cases h
theorem tY {Z : Nat → Prop} {h : Heap} {a b : AV} {u : Value} (r : VR C Z h (.tup [a, b]) u) : ∃ t x y, u = .ref t ∧ IsTup h t #[x, y] ∧ VR C Z h a x ∧ VR C Z h b y := by
  cases r with | tup li off r =>
  cases r with | cons r1 r2 =>
  cases r2 with | cons r2 r3 =>
  cases r3
  exact ⟨_, _, _, rfl, li.isTuple, r1, r2⟩
theorem mq {cenv : Env} {x y : Str} {px py pos : Pos} {kk : Nat} {t : Addr} {a b : Value} {Q : Unit → Shared → Prop} {E : Value → Shared → Prop} (hh : A.handled = Option.none) (ht : IsTup s.heap t #[a, b])
    (h : ∀ h', (∀ b o, s.heap.get? b = some o → h'.get? b = some o) → wpAny (model C.prog C.w) A (assign (.Name x px) cenv a) (fun _ s₁ => wpAny (model C.prog C.w) A (assign (.Name y py) cenv b) Q E s₁) E { s with heap := h' }) :
    wpAny (model C.prog C.w) A (assign (.Tuple [.Name x px, .Name y py] kk pos) cenv (.ref t)) Q E s := by
  refine assign_Tuple_tuple hh ht rfl rfl fun h' ext => ?_
  refine wpAny_bind (wpAny_holding (wpAny_mono (h h' fun b o e => ext b o (Nat.ne_of_lt (Heap.lt_size e)) e) (fun _ s₁ h₁ => ?_) fun _ _ e => e))
  exact wpAny_bind (wpAny_holding (wpAny_mono h₁ (fun _ s₂ h₂ => wpAny_pure h₂) fun _ _ e => e))
theorem TgtOk.two {scc : Scope} {i j : Nat} {x y : Str} {px py pos : Pos} {kk : Nat} (hk : scc.kind = .function) (hx : nms'[i]? = some x) (hy : nms'[j]? = some y) (hne : x ≠ y) (hl : scc.names.lookup x = some .local) (hl' : scc.names.lookup y = some .local) :
    TgtOk C scc nms' (.Tuple [.Name x px, .Name y py] kk pos) (tb2 i j) := by
  intro A cenv V σ ow s v u m ρ ρ' Q E hh hs hn r e K
  obtain ⟨p, e', rfl⟩ := Option.map_eq_some_iff.mp e
  have := xC e'
  subst this
  obtain ⟨t, a, b, rfl, ht, r1, r2⟩ := tY r
  refine mq hh ht fun h' gr => ?_
  refine assign_Name (wpAny_storeName_local (by unfold Env.kindOf; rw [hs]; exact hl) (hn.at' fun o e => gr _ _ e) (fun h₂ hn₂ hsb₂ => ?_) (by rw [hs, hk]; rfl))
  refine assign_Name (wpAny_storeName_local (by unfold Env.kindOf; rw [hs]; exact hl') hn₂ (fun h₃ hn₃ hsb₃ => ?_) (by rw [hs, hk]; rfl))
  refine K h₃ _ _ (fun b o nb e => (hsb₃.2 b nb).trans ((hsb₂.2 b nb).trans (gr b o e))) hn₃ fun k w hj => ?_
  rcases iw hj with ⟨rfl, rfl⟩ | ⟨_, e⟩
  · exact .inr ⟨y, b, hy, r2, hl', if_pos rfl⟩
  · rcases iw e with ⟨rfl, rfl⟩ | ⟨_, e⟩
    · exact .inr ⟨x, a, hx, r1, hl, by rw [if_neg hne, if_pos rfl]⟩
    · exact .inl e
theorem BindP.two (F : FEnv env nms V outer) (hh : A.handled = Option.none) {i j : Nat} {x y : Str} {px py pos : Pos} {kk : Nat} (hx : nms[i]? = some x) (hy : nms[j]? = some y) :
    BindP C A q env V nms (.Tuple [.Name x px, .Name y py] kk pos) (fun v ρ ρ' => ∃ a b, v = .tup [a, b] ∧ ρ' = setL (setL ρ i a) j b) :=
  fun ρ ρ' σ ow s v u Q E k r e K => by
    obtain ⟨a, b, rfl, rfl⟩ := e
    obtain ⟨t, ua, ub, rfl, ht, r1, r2⟩ := tY r
    refine mq hh ht fun h' gr => ?_
    have st : Stp (frs V) (Own σ ow) (Own σ ow) s { s with heap := h' } := Stp.ext gr s.toks
    have g := k.ok.good.ext gr s.toks
    have k' := k.stp F st g
    refine assign_Name (dC F hx k' (st.vr r1) fun s₂ st₂ k₂ => ?_)
    refine assign_Name (dC F hy k₂ (st₂.vr (st.vr r2)) fun s₃ st₃ k₃ => ?_)
    exact K s₃ ((st.toS.trans st₂).trans st₃) k₃
theorem BothS.forX2 {src : WX} {v : Expr} {i j : Nat} {x y : Str} {body : WS} {xs : List Stmt} {px py tp pos : Pos} {kk : Nat} (hS : SrcE C d sc nms false (.Tuple [.Name x px, .Name y py] kk tp) v src) (hB : BothB C d sc nms false body xs) (hv : jD v = true) (hx : nms[i]? = some x) (hy : nms[j]? = some y) :
    BothS C d sc nms false (qe i j src body) (.For (.Tuple [.Name x px, .Name y py] kk tp) v xs [] pos) where
  snd := fun A env V outer hF hs ha ρ σ ow s Qa Ea Q E w k ks kx => by
    refine wpAny_For (hS.snd A env V ρ hs ha σ ow s _ _ _ E w k.ok (kx.toE hF k) fun I wr xs G inv σ' ow' s' z S st ko hi fr hl => ?_) fun x => gi hv
    have g := ko.good.close_
    have k' := k.stp hF st g
    have nz : ∀ b ∈ wr, b ∉ V.its := fun b m n => by
      obtain ⟨_, o, y⟩ := k.ok.good.mem b (List.mem_append_right _ n)
      rw [fr b m] at y; cases y
    exact jR hF ha.frames (S.it V) (hB.snd A env (V.plus wr) outer hF.plus hs ha.plus) (.two hF.plus k.ok.hnd.none hx hy) k.ok.good.stays fr nz ks kx hi ⟨ko, k'.ns, k'.cells⟩ st.toS (fun v ρ σ R h => by
      obtain ⟨a, b, e, h⟩ := h
      exact ⟨_, ⟨a, b, e, rfl⟩, h⟩) z
noncomputable def zV (C : Cx) (fp wr : List Addr) (P : Nat → Array Value → Prop) (S : Nat → Heap → Prop) (xs : List AV) (V : Vo) (i : Nat) (σ : St) (ow : Nat → Option Nat) (s : Shared) : Prop :=
  S i s.heap ∧ (∀ b ∈ fp, b ∈ wr ∨ (¬ Zs σ ow (zss (V.plus wr)) b ∧ ∃ o, s.heap.get? b = some o)) ∧ ∀ j x vals, xs[j]? = some x → P j vals → vals.size ≤ 100 ∧ ∃ ys, x = .tup ys ∧ VRs C (Zs σ ow (zss (V.plus wr))) s.heap ys vals.toList
theorem It.ofT {I : Addr} {fp wr : List Addr} {m : Nat} {P : Nat → Array Value → Prop} {S : Nat → Heap → Prop} {Mid : Nat → Addr → Heap → Prop} {xs : List AV} {elts : List Expr} {kk : Nat} {np : Pos} (W : WalksT C.prog C.w A I fp wr m P S Mid) (hm : m = xs.length) (lv : ∀ i h, S i h → ∀ b ∈ wr, ∃ o, h.get? b = some o)
    (item' : ∀ i (s : Shared) (Q : Option Value → Shared → Prop) (E : Value → Shared → Prop), i < m → S i s.heap →
      (∀ T vals h' tk, P i vals → s.heap.objs.size ≤ T → h'.get? T = some (yA vals.toList 0) → Mid i T h' → (∀ b o, b ∉ wr → s.heap.get? b = some o → h'.get? b = some o) → Q (some (.ref T)) { s with heap := h', toks := tk }) →
      wpAny (model C.prog C.w) A (pyNext (.ref I)) Q E s) {G : St → Prop} :
    It C A q (.Tuple elts kk np) V I wr xs G (zV C fp wr P S xs V) where
  step := fun X i σ ow s σ' ow' s' h g x g' _ => by
    obtain ⟨h1, h2, h3⟩ := h
    refine ⟨W.frame i _ _ h1 fun b hb o e => ?_, fun b hb => ?_, fun j y v hj hp => ?_⟩
    · rcases h2 b hb with m | ⟨nz, _⟩
      · exact jS g m x e
      · exact x.keep b o e (fun z => nz (.inl z)) fun z => nz (.inr ((V.plus wr).sub b z))
    · rcases h2 b hb with m | ⟨nz, o, e⟩
      · exact .inl m
      · exact .inr ⟨(x.zg (zs := zss (V.plus wr))).not e nz, o, x.keep b o e (fun z => nz (.inl z)) fun z => nz (.inr ((V.plus wr).sub b z))⟩
    · obtain ⟨hz, ys, e, r⟩ := h3 j y v hj hp
      exact ⟨hz, ys, e, SStp.vrs (envs := V.plus wr) x r⟩
  next := fun i y σ ow s Q E hy h g _ K => by
    obtain ⟨h1, h2, h3⟩ := h
    have hi : i < m := by rw [hm]; exact (List.getElem?_eq_some_iff.mp hy).1
    refine item' i s _ E hi h1 fun T vals h' tk hP hsz hT hM hk => ?_
    refine W.go elts kk np i T _ _ E hM fun h₂ hS hk₂ => ?_
    have hk' : ∀ b o, b ∉ wr → s.heap.get? b = some o → h₂.get? b = some o := fun b o nb e => hk₂ b o nb (hk b o nb e)
    have hK : Kp (Zs σ ow (zss (V.plus wr))) s.heap h₂ := fun b o e nb => hk' b o (fun m => nb (.inr (Vo.plus_wr m))) e
    have nT : s.heap.get? T = Option.none := Heap.get?_none_of_le hsz
    have nZ : ¬ Zs σ ow (zss (V.plus wr)) T := by
      rintro (z | z)
      · obtain ⟨o, e⟩ := g.live z
        rw [nT] at e; cases e
      · obtain ⟨_, o, e⟩ := g.mem T z
        rw [nT] at e; cases e
    obtain ⟨hz, ys, rfl, r⟩ := h3 i y vals hy hP
    have nw := W.apart _ _ _ hM
    have hT' : IsT h₂ T vals.toList := ⟨by rw [Array.length_toList]; omega, 0, hk₂ _ _ nw hT⟩
    refine K (.ref T) h₂ tk (.tup hT' nZ (r.kp hK (Zg.refl _ _))) ⟨hS, fun b hb => ?_, fun j z u hj hp => ?_⟩ hk' (lv _ _ hS)
    · rcases h2 b hb with m | ⟨nz, o, e⟩
      · exact .inl m
      · exact .inr ⟨nz, o, hK b o e nz⟩
    · obtain ⟨hz, ys, e, r⟩ := h3 j z u hj hp
      exact ⟨hz, ys, e, r.kp hK (Zg.refl _ _)⟩
  done := fun σ ow s Q E h g hh _ K => by
    rw [← hm] at h
    exact W.done s _ E h.1 fun h' tk hk => K h' tk hk
  move := fun i σ ow s h' tk h g k => by
    obtain ⟨h1, h2, h3⟩ := h
    have hK : Kp (Zs σ ow (zss (V.plus wr))) s.heap h' := fun b o e nb => k b o (fun m => absurd (.inr (Vo.plus_sub b (List.mem_append_right _ m))) nb) e
    refine ⟨W.frame i _ _ h1 fun b hb o e => ?_, fun b hb => ?_, fun j z u hj hp => ?_⟩
    · rcases h2 b hb with m | ⟨nz, _⟩
      · exact k b o (fun _ => m) e
      · exact hK b o e nz
    · rcases h2 b hb with m | ⟨nz, o, e⟩
      · exact .inl m
      · exact .inr ⟨nz, o, hK b o e nz⟩
    · obtain ⟨hz, ys, e, r⟩ := h3 j z u hj hp
      exact ⟨hz, ys, e, r.kp hK (Zg.refl _ _)⟩
  self := fun i σ ow s Q E h g K => W.self i s Q E h.1 K
theorem uz {e it l : Addr} {items : Array Value} (hei : e ≠ it) (hle : l ≠ e) (hli : l ≠ it) : ∀ i (s : Shared) (Q : Option Value → Shared → Prop) (E : Value → Shared → Prop), i < items.size → ((∃ old, IsEnum s.heap e it i old) ∧ s.heap.IsListIter it l i ∧ s.heap.IsList l items) →
      (∀ T vals h' tk, (∃ t x, items[i]? = some x ∧ vals = #[.int i t, x]) → s.heap.objs.size ≤ T → h'.get? T = some (yA vals.toList 0) → ((∃ x, IsEnumOut h' e it ((i : Int) + 1) x T) ∧ h'.IsListIter it l (i + 1) ∧ h'.IsList l items ∧ T ≠ e ∧ T ≠ it) → (∀ b o, b ∉ [e, it] → s.heap.get? b = some o → h'.get? b = some o) → Q (some (.ref T)) { s with heap := h', toks := tk }) →
      wpAny (model C.prog C.w) A (pyNext (.ref e)) Q E s := fun i s Q E hi hst hQ => by
  obtain ⟨⟨old, he⟩, hit, hl⟩ := hst
  have hx : items[i]? = some items[i] := Array.getElem?_eq_getElem hi
  refine wpAny_pyNext_enum_item he hit hl hx hei fun h' ho hit' hT hsz hk => ?_
  have helt : e < s.heap.objs.size := Heap.lt_size he
  have hilt : it < s.heap.objs.size := by obtain ⟨_, x, _⟩ := hit; exact Heap.lt_size x
  exact hQ s.heap.objs.size #[.int i s.toks, items[i]] h' (s.toks + 1) ⟨_, _, hx, rfl⟩ (Nat.le_refl _) hT
    ⟨⟨_, ho⟩, hit', hl.at fun o x => hk l o hle hli x, Nat.ne_of_gt helt, Nat.ne_of_gt hilt⟩
    fun b o hb x => hk b o (fun e' => hb (by simp [e'])) (fun e' => hb (by simp [e'])) x
theorem SrcI.ofT {I : Addr} {fp wr : List Addr} {P : Nat → Array Value → Prop} {S : Nat → Heap → Prop} {xs : List AV} {elts : List Expr} {kk : Nat} {np : Pos} {G : St → Prop} (it : ∀ V, It C A q (.Tuple elts kk np) V I wr xs G (zV C fp wr P S xs V)) (fm : ∀ i h h', S i h → (∀ b ∈ fp, ∀ o, h.get? b = some o → h'.get? b = some o) → S i h') :
    SrcI C A q (.Tuple elts kk np) I wr xs G (zV C fp wr P S xs) where
  it := it
  wide := fun V ex i σ ow s h' t h fr gr => by
    obtain ⟨h1, h2, h3⟩ := h
    have zg := mw (V := V) (wr := wr) (σ := σ) (ow := ow) fr
    refine ⟨fm i _ _ h1 fun b _ o e => gr b o e, fun b hb => ?_, fun j y v hj hp => ?_⟩
    · rcases h2 b hb with m | ⟨nz, o, e⟩
      · exact .inl m
      · exact .inr ⟨zg.not e nz, o, gr b o e⟩
    · obtain ⟨hz, ys, e, r⟩ := h3 j y v hj hp
      exact ⟨hz, ys, e, r.kp (fun b o e _ => gr b o e) zg⟩
theorem qs {xs : List AV} {j : Nat} {x : AV} (h : (lV xs)[j]? = some x) : ∃ y, xs[j]? = some y ∧ x = .tup [.int j, y] := by
  unfold lV at h
  rw [List.getElem?_map, Option.map_eq_some_iff] at h
  obtain ⟨p, hp, rfl⟩ := h
  rw [List.getElem?_zipIdx, Option.map_eq_some_iff] at hp
  obtain ⟨y, hy, rfl⟩ := hp
  exact ⟨y, hy, by rw [Nat.zero_add]⟩
theorem SrcE.enum (X : CxOk C T P) {n : Str} {np tp pos : Pos} {elts : List Expr} {kk : Nat} {es : WL} {xs : List Expr} (h : BothL C d sc nms false es xs) (hr : n = (Str.ofString "enumerate")) (hn : n ∈ T.bltN) (h3 : gl sc n = true) : SrcE C d sc nms false (.Tuple elts kk tp) (.Call (.Name n np) xs [] pos) (wf es) where
  snd := fun A env V ρ hs ha σ ow s K Ea Q E w ok kx hQ => by
    obtain ⟨g1, g2, g3⟩ := eT h3
    have hboot : bootBuiltins n = some (.type "enumerate") := by rw [hr]; decide +kernel
    refine wpAny_Call_ofName (bname X (by unfold Env.kindOf; rw [hs]; exact g1) g2 ok hn g3 hboot ?_)
    refine PyProof.Rows.callWith_type (bY h.stars) (bS h.stars (h.snd hs ha σ ow s _ Ea _ E w ok (fun vs avs σ' ow' s' z st g r => ?_) kx))
    obtain ⟨items, rfl, z⟩ := z
    have hh := ok.hnd.none
    obtain ⟨r, hlr⟩ := r
    clear hlr
    cases r with | cons r1 r2 =>
    cases r2
    cases r1 with | ilist li off rr =>
    rename_i l us
    obtain ⟨hz, nn, e0⟩ := id li
    obtain ⟨hp, gg, dd, tt, oo⟩ := s'
    refine call_enumerate_list li.isList fun h' hE hI hsz gr => ?_
    dsimp only at hE hI hsz gr e0 rr off ⊢
    have hlt : l < hp.objs.size := Heap.lt_size e0
    have frI : ∀ c, hp.objs.size ≤ c → hp.get? c = Option.none := fun c hc => Heap.get?_none_of_le hc
    have fr : ∀ c ∈ [hp.objs.size + 1, hp.objs.size], hp.get? c = Option.none ∧ ∃ o, h'.get? c = some o := fun c m => by
      rcases List.mem_cons.mp m with rfl | m
      · exact ⟨frI _ (Nat.le_succ _), _, hE⟩
      · rw [List.mem_singleton.mp m]
        obtain ⟨o, e, _⟩ := hI
        exact ⟨frI _ (Nat.le_refl _), o, e⟩
    have hei : hp.objs.size + 1 ≠ hp.objs.size := Nat.succ_ne_self _
    have hle : l ≠ hp.objs.size + 1 := Nat.ne_of_lt (Nat.lt_succ_of_lt hlt)
    have hli : l ≠ hp.objs.size := Nat.ne_of_lt hlt
    have hL : h'.IsList l us.toArray := li.isList.at fun o e => gr l o e
    have W := WalksT.enumerate (prog := C.prog) (w := C.w) (A := A) hh (hp.objs.size + 1) hp.objs.size l hei hle hli us.toArray
    refine W.self 0 _ _ E ⟨⟨_, hE⟩, hI, hL⟩ ?_
    have ko := (ok.stp st g).open_ (h' := h') (t := tt) (wr := [hp.objs.size + 1, hp.objs.size]) gr fr
    have zg : Zg (Zs σ' ow' (zss V)) (Zs σ' ow' (zss (V.plus [hp.objs.size + 1, hp.objs.size]))) hp := fun b y => by
      rcases y with y | y
      · exact .inl (.inl y)
      · rcases Vo.plus_mem y with y | y
        · exact .inl (.inr y)
        · exact .inr (fr b y).1
    have hlen := rr.length
    have hel : (lV items).length = items.length := by unfold lV; rw [List.length_map, List.length_zipIdx]
    refine hQ _ _ _ _ _ σ' ow' _ z (SrcI.ofT (fun V => It.ofT W (by rw [List.size_toArray, hel, hlen]) (fun i h hS b hb => ?_) (uz hei hle hli)) W.frame) (st.trans (Stp.ext (s := ⟨hp, gg, dd, tt, oo⟩) gr tt)) ko ⟨⟨⟨_, hE⟩, hI, hL⟩, fun b hb => ?_, fun j x vals hj hp => ?_⟩ (fun c m => st.back rfl g c (fr c m).1) (by rw [hel, hlen]; exact hz)
    · obtain ⟨⟨_, x1⟩, ⟨o, x2, _⟩, _⟩ := hS
      rcases List.mem_cons.mp hb with rfl | hb
      · exact ⟨_, x1⟩
      · rw [List.mem_singleton.mp hb]; exact ⟨o, x2⟩
    · rcases List.mem_cons.mp hb with rfl | hb
      · exact .inl (by simp)
      · rcases List.mem_cons.mp hb with rfl | hb
        · exact .inl (by simp)
        · rw [List.mem_singleton.mp hb]
          exact .inr ⟨zg.not e0 off, _, gr _ _ e0⟩
    · obtain ⟨t, x', hx', rfl⟩ := hp
      obtain ⟨y, hy, rfl⟩ := qs hj
      obtain ⟨u, hu, ru⟩ := rr.get _ _ hy
      have : u = x' := by rw [List.getElem?_toArray, hu] at hx'; cases hx'; rfl
      subst this
      exact ⟨by show 2 ≤ 100; decide, _, rfl, .cons (.int _ _) (.cons (ru.kp (fun b o e _ => gr b o e) zg) .nil)⟩
end
end Ap
end
section
set_option genSizeOf false
namespace Ap
open PySem PySem.Calls PyProof.Rows
section
variable {C : Cx} {T : Tabs} {P : Prg} {d : Nat} {sc : Scope} {nms nms' : List Str} {q : Bool} {A : Around} {V : Vo} {σ σ' : St} {ow ow' : Nat → Option Nat} {s s' : Shared} {env : Env} {outer : List Env}
end
end Ap
end
section
set_option genSizeOf false
namespace Ap
open PySem PySem.Calls PyProof.Rows
noncomputable abbrev xX : OC := Cv AV.int AObj.dictI
noncomputable abbrev vx : OC := yU AV.int AObj.dictI
noncomputable abbrev vo (o i e : WE) : WS := nh AV.int AObj.dictI o i e
noncomputable abbrev BY (o i e : WE) : WS := nh AV.str AObj.dictS o i e
section
variable {C : Cx} {T : Tabs} {P : Prg} {d : Nat} {sc : Scope} {nms : List Str} {q : Bool}
theorem xh : CmpSnd C .In xX := xx (dkI C)
theorem vV : CmpSnd C .NotIn vx := vj (dkI C)
theorem BothS.setI {o i e : WE} {ov iv v : Expr} {np pos : Pos} (ho : Both C d sc nms q o ov) (hi : Both C d sc nms q i iv) (he : Both C d sc nms q e v) (hc : dP v = true) : BothS C d sc nms q (vo o i e) (.Assign [.Subscript ov iv np] v pos) := BothS.setItem (dkI C) ho hi he hc
theorem BothS.setS {o i e : WE} {ov iv v : Expr} {np pos : Pos} (ho : Both C d sc nms q o ov) (hi : Both C d sc nms q i iv) (he : Both C d sc nms q e v) (hc : dP v = true) : BothS C d sc nms q (BY o i e) (.Assign [.Subscript ov iv np] v pos) := BothS.setItem (dkS C) ho hi he hc
theorem uG : bootBuiltins (Str.ofString "list") = some (tyV .list) := by decide +kernel
theorem mM : BiOk C true (Str.ofString "len") nu := ⟨⟨_, by decide +kernel, .inl ⟨_, rfl⟩, xM⟩⟩
theorem vm : BiOk C false (Str.ofString "min") tQ := ⟨⟨_, by decide +kernel, .inl ⟨_, rfl⟩, yN⟩⟩
theorem im {own : Bool} : BiOk C true (Str.ofString "list") (oList own) := ⟨⟨_, by decide +kernel, .inr ⟨_, rfl⟩, yo⟩⟩
end
end Ap
end
section
namespace Ap
open PySem
section
variable {F : Calls} {ρ : Loc} {σ : St} {Q : PQ} {E : PE} {QQ : QS} {EE : ES} {K : Bool → Prop} {KX : List AV → (St → Prop) → St → Prop} {G : St → Prop} {a b c e : WE} {es : WL} {src : WX} {A B : WS} {l n m i j : Nat} {x y : Int} {u v : AV} {vs xs ys : List AV} {D : List (Int × AV)} {M : List (Str × AV)} {z : Bool} {caps : List Nat} {tb : TB} {f : OM} {rc : AV → St → Prop}
theorem nr : wV true Q vs σ = ∀ a, σ a = Option.none → Q (.obj a) (upd σ a (.list vs)) := rfl
theorem AK : wd ρ σ Q E = ∀ a, σ a = Option.none → Q (.obj a) (upd σ a (.dictI [])) := rfl
theorem uQ : vBm rc f e es ρ σ Q E = e ρ σ (kBm rc f es ρ Q E) E := rfl
theorem lA : Ak f v Q vs σ = f v vs σ Q := rfl
theorem nk (h : rc v σ) : kBm rc f es ρ Q E v σ = es ρ σ (Ak f v Q) E := propext ⟨fun h => h.2, fun w => ⟨h, w⟩⟩
theorem iL (h : σ l = some (.list xs)) (h' : xs.length ≤ 1000000) : dv (.obj l) [v] σ Q = Q .none (upd σ l (.list (xs ++ [v]))) := propext ⟨fun ⟨_, _, _, e1, e2, e3, _, q⟩ => by cases e1; cases e2; rw [h] at e3; cases e3; exact q, fun q => ⟨_, _, _, rfl, rfl, h, h', q⟩⟩
theorem Ct (h : σ l = some (.dictI D)) (h1 : aQ D x = some v) (h' : D.length ≤ 1000000) : wK (.obj l) [.int x] σ Q = Q v (upd σ l (.dictI (fQ x D))) := propext ⟨fun ⟨_, _, _, _, e1, e2, e3, e4, _, q⟩ => by cases e1; cases e2; rw [h] at e3; cases e3; rw [h1] at e4; cases e4; exact q, fun q => ⟨_, _, _, _, rfl, rfl, h, h1, h', q⟩⟩
theorem zc (h : σ l = some (.dictI D)) : xX (.int x) (.obj l) σ K = K (il D x) := propext ⟨fun ⟨_, _, _, e1, e2, e3, q⟩ => by cases e1; cases e2; rw [h] at e3; cases e3; exact q, fun q => ⟨_, _, _, rfl, rfl, h, q⟩⟩
theorem An (h : σ l = some (.dictI D)) : vx (.int x) (.obj l) σ K = K (!il D x) := propext ⟨fun ⟨_, _, _, e1, e2, e3, q⟩ => by cases e1; cases e2; rw [h] at e3; cases e3; exact q, fun q => ⟨_, _, _, rfl, rfl, h, q⟩⟩
theorem zu : vo a b e ρ σ QQ EE = e ρ σ (Aw AV.int AObj.dictI a b ρ QQ EE) (kE EE ρ) := rfl
theorem AH {κ : Type} [DecidableEq κ] {key : κ → AV} {ob : List (κ × AV) → AObj} : Aw key ob a b ρ QQ EE v σ = a ρ σ (Ay key ob b v ρ QQ EE) (kE EE ρ) := rfl
theorem zY {κ : Type} [DecidableEq κ] {key : κ → AV} {ob : List (κ × AV) → AObj} : Ay key ob b v ρ QQ EE u σ = b ρ σ (zv key ob v u ρ QQ) (kE EE ρ) := rfl
theorem Ah (h : σ l = some (.dictI D)) (h' : D.length ≤ 1000000) : zv AV.int AObj.dictI v (.obj l) ρ QQ (.int x) σ = QQ .next ρ (upd σ l (.dictI (cb x v D))) := propext ⟨fun ⟨_, _, _, e1, e2, e3, _, q⟩ => by cases e1; cases e2; rw [h] at e3; cases e3; exact q, fun q => ⟨_, _, _, rfl, rfl, h, h', q⟩⟩
theorem rU : vc c A ρ σ QQ EE = ∃ n, whN c A EE n ρ σ QQ := rfl
noncomputable def kWh (c : WE) (A : WS) (EE : ES) (n : Nat) (ρ : Loc) (QQ : QS) : Bool → St → Prop := fun t σ₂ => match t with
  | true => A ρ σ₂ (kFL (whN c A EE n) QQ) EE
  | false => QQ .next ρ σ₂
theorem yO : whN c A EE (n + 1) ρ σ QQ = c ρ σ (onT (kWh c A EE n ρ QQ)) eNo := rfl
theorem Ai : kWh c A EE n ρ QQ true σ = A ρ σ (kFL (whN c A EE n) QQ) EE := rfl
theorem wq : kWh c A EE n ρ QQ false σ = QQ .next ρ σ := rfl
theorem sW : oj n src A ρ σ QQ EE = src ρ σ (vk n A ρ QQ EE) (kE EE ρ) := rfl
theorem pz : vk n A ρ QQ EE xs G σ = forL G (pd n A EE) xs ρ σ QQ := rfl
theorem yH : qe i j src A ρ σ QQ EE = src ρ σ (rZ i j A ρ QQ EE) (kE EE ρ) := rfl
theorem wj : rZ i j A ρ QQ EE xs G σ = forL G (yK i j A EE) xs ρ σ QQ := rfl
theorem Ao : yK i j A EE (.tup [u, v]) ρ σ QQ = A (setL (setL ρ i u) j v) σ QQ EE := propext ⟨fun ⟨_, _, e, q⟩ => by cases e; exact q, fun q => ⟨_, _, rfl, q⟩⟩
theorem mO : mK es ρ σ KX E = es ρ σ (kXR KX) E := rfl
theorem sB : kXR KX [.int y] σ = ((y.natAbs < 2 ^ 60 ∧ y ≤ 1000000) ∧ KX (bW 0 y) (fun _ => True) σ) := propext ⟨fun ⟨_, _, e, h, q⟩ => by cases e; exact ⟨⟨h.2.1, by have := h.2.2; omega⟩, q⟩, fun ⟨h, q⟩ => ⟨_, _, rfl, ⟨by decide, h.1, by have := h.2; omega⟩, q⟩⟩
theorem dy : cZ e ρ σ KX E = e ρ σ (kXL KX) E := rfl
theorem sX : kXL KX (.ilist xs) σ = KX xs (gj (.ilist xs) xs) σ := propext ⟨fun ⟨_, e, q⟩ => by cases e; exact q, fun q => ⟨_, rfl, q⟩⟩
theorem iE (h : σ l = some (.list xs)) : kXL KX (.obj l) σ = KX xs (gj (.obj l) xs) σ := propext ⟨fun ⟨_, e, q⟩ => by have := cW e; rw [h] at this; cases this; exact q, fun q => ⟨_, by show (match σ l with | some (.list xs) => some xs | _ => Option.none) = some xs; rw [h], q⟩⟩
theorem wU : wf es ρ σ KX E = es ρ σ (kXE KX) E := rfl
theorem BE : kXE KX [.ilist xs] σ = KX (lV xs) (fun _ => True) σ := propext ⟨fun ⟨_, e, q⟩ => by cases e; exact q, fun q => ⟨_, rfl, q⟩⟩
theorem dN : cJ z src tb caps e ρ σ Q E = ((caps.all fun i => (gz ρ i).isSome) = true ∧ src ρ σ (ve z tb e (dA caps ρ) Q) E) := rfl
theorem dh : ve z tb e ρ Q xs G σ = lT G (sR tb e ρ) xs [] σ (mY z Q) := rfl
theorem de : mY false Q xs σ = Q (.ilist xs) σ := rfl
theorem qV : mY true Q xs σ = ∀ a, σ a = Option.none → Q (.obj a) (upd σ a (.list xs)) := rfl
theorem em : sR (tb1 n) e ρ v σ Q = e (setL ρ n v) σ Q eNo := propext ⟨fun ⟨_, e, q⟩ => by cases e; exact q, fun q => ⟨_, rfl, q⟩⟩
theorem yg : sR (tb2 i j) e ρ (.tup [u, v]) σ Q = e (setL (setL ρ i u) j v) σ Q eNo := propext ⟨fun ⟨_, e, q⟩ => by cases e; exact q, fun q => ⟨_, rfl, q⟩⟩
theorem zR : tQ [.int x, .int y] σ Q = Q (.int (if y < x then y else x)) σ := propext ⟨fun ⟨_, _, e, h⟩ => by cases e; exact h, fun h => ⟨_, _, rfl, h⟩⟩
theorem ml (h : σ l = some (.list xs)) : oList z [.obj l] σ Q = mkL z xs σ Q := propext ⟨fun ⟨_, _, e1, e2, q⟩ => by cases e1; have := cW e2; rw [h] at this; cases this; exact q, fun q => ⟨_, _, rfl, by show (match σ l with | some (.list xs) => some xs | _ => Option.none) = some xs; rw [h], q⟩⟩
theorem rW : mkL false xs σ Q = Q (.ilist xs) σ := rfl
theorem rE : mkL true xs σ Q = ∀ a, σ a = Option.none → Q (.obj a) (upd σ a (.list xs)) := rfl
theorem ku {G : St → Prop} {B : AV → Loc → St → QS → Prop} (I : Nat → Loc → St → Prop) : ∀ (xs : List AV) (k : Nat),
    (∀ i x, xs[i]? = some x → ∀ ρ σ R, I (k + i) ρ σ → (∀ ρ' σ', I (k + i + 1) ρ' σ' → R .next ρ' σ') → G σ ∧ B x ρ σ R) → (∀ ρ σ, I (k + xs.length) ρ σ → G σ ∧ QQ .next ρ σ) → ∀ ρ σ, I k ρ σ → forL G B xs ρ σ QQ := by
  intro xs
  induction xs with
  | nil => intro k _ h2 ρ σ hi; exact h2 ρ σ hi
  | cons x xs ih =>
    intro k h1 h2 ρ σ hi
    refine h1 0 x rfl ρ σ _ hi fun ρ' σ' hi' => ih (k + 1) (fun i y hy ρ σ R hj hR => h1 (i + 1) y hy ρ σ R (by rw [show k + (i + 1) = k + 1 + i by omega]; exact hj) fun ρ' σ' hk => hR ρ' σ' (by rw [show k + 1 + i + 1 = k + (i + 1) + 1 by omega]; exact hk)) (fun ρ σ hj => h2 ρ σ (by rw [List.length_cons, show k + (xs.length + 1) = k + 1 + xs.length by omega]; exact hj)) ρ' σ' hi'
theorem dr {G : St → Prop} {B : AV → St → PQ → Prop} {R : List AV → St → Prop} (f : AV → AV) (hG : G σ) : ∀ (xs acc : List AV), (∀ x ∈ xs, ∀ R : PQ, R (f x) σ → B x σ R) → R (acc ++ xs.map f) σ → lT G B xs acc σ R := by
  intro xs
  induction xs with
  | nil => intro acc _ h; exact ⟨hG, by rw [List.map_nil, List.append_nil] at h; exact h⟩
  | cons x xs ih => intro acc h1 h2; exact ⟨hG, h1 x List.mem_cons_self _ (ih (acc ++ [f x]) (fun y hy => h1 y (List.mem_cons_of_mem _ hy)) (by rw [List.append_assoc]; exact h2))⟩
theorem lx {G : St → Prop} {B : AV → St → PQ → Prop} {R : List AV → St → Prop} (T : AV → Prop) (hG : G σ) : ∀ (xs acc : List AV), (∀ x ∈ xs, ∀ R : PQ, (∀ y, T y → R y σ) → B x σ R) → (∀ ys : List AV, ys.length = xs.length → (∀ y ∈ ys, T y) → R (acc ++ ys) σ) → lT G B xs acc σ R := by
  intro xs
  induction xs with
  | nil => intro acc _ h; exact ⟨hG, by have := h [] rfl (fun y hy => nomatch hy); rw [List.append_nil] at this; exact this⟩
  | cons x xs ih =>
    intro acc h1 h2
    refine ⟨hG, h1 x List.mem_cons_self _ fun y hy => ih (acc ++ [y]) (fun z hz => h1 z (List.mem_cons_of_mem _ hz)) fun ys e hys => ?_⟩
    rw [List.append_assoc]
    exact h2 (y :: ys) (congrArg Nat.succ e) fun z hz => (List.mem_cons.mp hz).elim (fun q => q ▸ hy) (hys z)
end
end Ap
end
section
namespace Ap
open PySem PySem.Calls PyProof.Rows
noncomputable def GlobOk (C : Cx) (gs : List (Str × AV)) : Prop := ∀ x v, (x, v) ∈ gs → ∃ u, C.mg x = some u ∧ VR C (fun _ => False) C.base v u
noncomputable def qS : ON := fun vs σ Q => ∃ xs, vs = [.tup xs] ∧ Q (.int xs.length) σ
noncomputable def pU : List AV → Option (List Int) := jc fun v => match v with | .int i => some i | _ => Option.none
noncomputable def xS : OC := fun a b σ K => ∃ x ys ns, a = .int x ∧ b = .tup ys ∧ pU ys = some ns ∧ K (ns.any (· == x))
noncomputable def wi (own : Bool) : O2 := fun a b σ Q => ∃ xs ys, a = .ilist xs ∧ b = .ilist ys ∧ xs.length + ys.length ≤ 1000000 ∧ mkL own (xs ++ ys) σ Q
noncomputable def cH : O2 := fun a b σ Q => ∃ l xs i, a = .obj l ∧ b = .int i ∧ σ l = some (.list xs) ∧ 0 ≤ i ∧ kn Q σ xs[i.toNat]?
section
variable {C : Cx} {T : Tabs} {P : Prg} {F : Calls} {d : Nat} {sc : Scope} {nms : List Str} {q : Bool} {gs : List (Str × AV)}
theorem Both.glob (X : CxOk C T P) (Y : GlobOk C gs) {i : Nat} {x : Str} {v : AV} {pos : Pos} (hm : gs[i]? = some (x, v)) (h3 : gl sc x = true) : Both C d sc nms q (vC v) (.Name x pos) :=
  .of rfl fun A env envs ρ hs ha σ ow s Qa Ea Q E w ok kv kx => by
    obtain ⟨u, e, r⟩ := Y x v (List.mem_of_getElem? hm)
    obtain ⟨g1, g2, g3⟩ := eT h3
    exact gname X (by unfold Env.kindOf; rw [hs]; exact g1) g2 ok e (kv.here ok.good w (ok.good.baseVR r))
theorem yC : fL C true (.builtin "len") qS := by
  intro A envs σ ow s Qa Q E vs vals hq g k r w
  obtain ⟨xs, rfl, w⟩ := w
  cases r with | cons r1 r2 =>
  cases r2
  cases r1 with | tup li off r =>
  refine PyProof.Rows.len_tuple li.isTuple (by have := li.1; rw [List.size_toArray]; omega) ?_
  rw [List.size_toArray, ← r.length]
  exact k.val g _ w (.int _ _)
theorem rV {Z : Nat → Prop} {h : Heap} : ∀ {ys : List AV} {vs : List Value} {ns : List Int}, VRs C Z h ys vs → pU ys = some ns → IntsAre vs ns := by
  intro ys
  induction ys with
  | nil => intro vs ns r e; cases r; cases e; exact .nil
  | cons y ys ih =>
    intro vs ns r e
    cases r with | cons hd tl =>
    obtain ⟨d, e1, e2⟩ := Option.bind_eq_some_iff.mp e
    obtain ⟨ds, e3, rfl⟩ := Option.map_eq_some_iff.mp e2
    cases hd <;> first | cases e1 | skip
    exact .cons _ _ (ih tl e3)
theorem xb : CmpSnd C .In xS := by
  intro A envs σ ow s K Q E va vb a b hu g ra rb w k
  obtain ⟨x, ys, ns, rfl, rfl, e, w⟩ := w
  cases ra
  cases rb with | tup li off r =>
  exact in_tuple_ints li.isTuple (by rw [List.toList_toArray]; exact rV r e) (k _ s.toks w)
theorem vB {own : Bool} : BinSnd C .Add (wi own) := by
  intro A envs σ ow s Qa Q E va vb a b g k ra rb w
  obtain ⟨xs, ys, rfl, rfl, hl, w⟩ := w
  cases ra with | ilist la offa rra =>
  cases rb with | ilist lb offb rrb =>
  obtain ⟨za, na, ea⟩ := la
  obtain ⟨zb, nb, eb⟩ := lb
  have l1 := rra.length
  have l2 := rrb.length
  refine P.add_list (hl := ea) (hb := eb) ?_ (hsz := ?_)
  · rw [List.append_toArray]
    obtain ⟨hh, gg, dd, tt, oo⟩ := s
    exact qf g k tt (by rw [List.length_append]; omega) w (VRs.append rrb rra)
  · rw [List.size_toArray, List.size_toArray]; unfold sizeLine; omega
theorem gV : kQ C cH := by
  intro A envs σ ow s Qa Q E va vb a b value slice hp g k ra rb w
  obtain ⟨l, xs, i, rfl, rfl, hs, h0, w⟩ := w
  cases ra
  cases rb
  obtain ⟨vs, li, r⟩ := g.store l _ hs
  obtain ⟨v, e, w'⟩ := gH w
  obtain ⟨u, e', r'⟩ := r.get _ _ e
  have hlt := (List.getElem?_eq_some_iff.mp e').1
  have hz := li.1
  exact tail_any li.isList.typeIs slot_list_getitem.lookup (wpAny_getItem_list li.isList h0 (by omega) (by rw [List.getElem?_toArray]; exact e') (k.here g w' r')) (hp _ _)
end
noncomputable def kB : Loc → List Nat → List AV → Loc
  | ρ, i :: is, x :: xs => kB (setL ρ i x) is xs
  | ρ, _, _ => ρ
noncomputable def zL (is : List Nat) (ρ : Loc) (Q : QS) : PQ := fun v σ => ∃ xs, v = .tup xs ∧ xs.length = is.length ∧ Q .next (kB ρ is xs) σ
noncomputable def uY (is : List Nat) (e : WE) : WS := fun ρ σ Q E => e ρ σ (zL is ρ Q) (kE E ρ)
inductive NamesAre (nms : List Str) : List Expr → List Nat → Prop
  | nil : NamesAre nms [] []
  | cons {n : Str} {p : Pos} {i : Nat} {es : List Expr} {is : List Nat} : nms[i]? = some n → NamesAre nms es is → NamesAre nms (.Name n p :: es) (i :: is)
section
variable {C : Cx} {T : Tabs} {P : Prg} {F : Calls} {d : Nat} {sc : Scope} {nms : List Str} {q : Bool}
theorem NamesAre.len {es : List Expr} {is : List Nat} (h : NamesAre nms es is) (env : Env) : (assignEach es env).length = is.length ∧ (assignEach es env).findIdx? (·.1) = Option.none := by
  induction h with
  | nil => exact ⟨rfl, rfl⟩
  | cons _ _ ih =>
    refine ⟨congrArg Nat.succ ih.1, ?_⟩
    show List.findIdx? (·.1) ((false, _) :: assignEach _ env) = Option.none
    rw [List.findIdx?_cons, ih.2]; rfl
theorem oy {A : Around} {env : Env} {V : Vo} {outer : List Env} {σ : St} {ow : Nat → Option Nat} {Q : Unit → Shared → Prop} {E : Value → Shared → Prop} (hF : FEnv env nms V outer) {es : List Expr} {is : List Nat} (h : NamesAre nms es is) :
    ∀ (xs : List AV) (vs : List Value) (ρ : Loc) (s : Shared), xs.length = is.length → VRs C (Zs σ ow (zss V)) s.heap xs vs → SOk C A q env V nms ρ σ ow s → (∀ s', SStp (dL env) V.fs (Own σ ow) (Own σ ow) s s' → SOk C A q env V nms (kB ρ is xs) σ ow s' → Q () s') →
    wpAny (model C.prog C.w) A (assignInOrder ((assignEach es env).map (·.2)) vs) Q E s := by
  induction h with
  | nil =>
    intro xs vs ρ s hl r k K
    cases xs with
    | cons => cases hl
    | nil =>
      cases r
      exact wpAny_pure (K s (SStp.refl _ _ _ _) k)
  | @cons n p i es is hn _ ih =>
    intro xs vs ρ s hl r k K
    cases r with
    | nil => cases hl
    | cons hd tl =>
      refine wpAny_bind (wpAny_holding (assign_Name (dC hF hn k hd fun s₂ st₂ k₂ => ?_)))
      exact ih _ _ _ s₂ (Nat.succ.inj hl) (st₂.vrs tl) k₂ fun s' st' k' => K s' (st₂.trans st') k'
theorem BothS.unp {is : List Nat} {es : List Expr} {e : WE} {v : Expr} {kk : Nat} {tp pos : Pos} (he : Both C d sc nms false e v) (hc : ∀ env : Env, swapsWithSole [.Tuple es kk tp] v pos.line env = pure false ∧ swappedStores [.Tuple es kk tp] v env = pure Option.none) (hn : NamesAre nms es is) :
    BothS C d sc nms false (uY is e) (.Assign [.Tuple es kk tp] v pos) where
  snd := fun A env V outer hF hs ha ρ σ ow s Qa Ea Q E w k ks kx => by
    refine Assign_Tuple (he.ev A env V ρ hs ha σ ow s _ _ _ E w k.ok (fun u av σ' ow' s' z st g r => ?_) (kx.toE hF k)) (hc env).1 (hc env).2
    obtain ⟨xs, rfl, hl, z⟩ := z
    have k' := k.stp hF st g
    cases r with | tup at_ off rr =>
    have hlen := rr.length
    refine wpAny_assign_Tuple k.ok.hnd.none at_.isTuple (by rw [(hn.len env).1, List.size_toArray]; omega) (hn.len env).2 fun h' ext => ?_
    have gr : ∀ b o, s'.heap.get? b = some o → h'.get? b = some o := fun b o e => ext b o (Nat.ne_of_lt (Heap.lt_size e)) e
    have st' : Stp (frs V) (Own σ' ow') (Own σ' ow') s' { s' with heap := h' } := Stp.ext gr s'.toks
    have g' := g.ext gr s'.toks
    refine oy hF hn xs _ ρ _ hl (st'.vrs rr) (k'.stp hF st' g') fun s₃ st₃ k₃ => ?_
    exact ks _ _ _ σ' ow' s₃ z ((st.trans st').toS.trans st₃) k₃ .next
theorem qE : BiOk C true (Str.ofString "len") qS := ⟨⟨_, by decide +kernel, .inl ⟨_, rfl⟩, yC⟩⟩
theorem qr : bootBuiltins (Str.ofString "str") = some (tyV .str) := by decide +kernel
theorem vp {K : PySem.W.Frag} {T : Tabs} {P : Prg} {fa ca : List Addr} {prog : Program} {w : World} {s₁ : Shared} {mg mb : Str → Option Value} {p : Params} (X : K.In s₁.heap) (g : s₁.heap.Ns mainGlobals mg) (b : s₁.heap.Ns builtinsNs mb) (nl : s₁.heap.NoLimit)
    (bt : ∀ x : Str, x ≠ "__name__" → mb x = bootBuiltins x) (D : KDat K T P fa ca) {R : Cx → Prop} (hY : R (nM prog w s₁.heap mg mb T P fa ca))
    (hB : ∀ C, CxOk C T P → R C → ∀ (F : Calls) (d : Nat), bZ C P d F → ∀ (f : Nat) (fi : FnI) (ft : FnT), P.fns[f]? = some fi → T.fts[f]? = some ft → BothB C d ft.sc ft.nms fi.quiet (fi.body F) ft.body)
    (hg : s₁.gens = #[]) {f : Nat} {l : Addr} {ns : List Int} (hW : PySem.W.Well p s₁.heap (.ref l) (.list (ns.map fun n => PySem.W.WData.int n))) (hn : ns.length ≤ 63) {d : Nat} (hd : d ≤ 100)
    (hw : wpF P d f [.ilist (ns.map .int)] (fun _ => Option.none) (fun v _ => v = .bool true) fun _ _ => False) :
    codeAny (model prog w) callerA (.call (.ref (fa.getD f 0)) ⟨[.ref l], []⟩) (fun r s' => r = .ok (.ret (.bool true)) ∧ (∀ b o, s₁.heap.get? b = some o → s'.heap.get? b = some o) ∧ s'.os = s₁.os ∧ s'.gens = #[]) s₁ := by
  have CX := xW (prog := prog) (w := w) X g b nl bt D
  have F := yq CX (fun f fi ft h1 h2 => List.all_eq_true.mp D.sh (fi, ft) (tJ h1 h2)) (hB _ CX hY) d
  have G : Good (nM prog w s₁.heap mg mb T P fa ca) ⟨[], [], []⟩ (fun _ => Option.none) (fun _ => Option.none) s₁ :=
    ⟨fun _ _ e => e, trivial, fun b m => absurd m (by simp), fun b m => absurd m (by simp [zss]), fun e m => absurd m (by simp), fun a o e => by simp at e, fun b a e => by simp at e, fun a e => by simp at e, fun L m => absurd m (by simp [zss]), hg⟩
  cases hW with
  | list at_ all =>
    have hr := qO (C := nM prog w s₁.heap mg mb T P fa ca) (Z := Zs (fun _ => Option.none) (fun _ => Option.none) (zss ⟨[], [], []⟩)) all
    have hl := hr.length
    rw [List.length_map] at hl
    refine F f [.ilist (ns.map .int)] [.ref l] _ _ s₁ _ _ _ callerA ⟨[], [], []⟩ hw G ⟨rfl, ?_, ?_⟩ (.inl rfl) (.cons (.ilist ⟨by omega, _, at_⟩ ?_ hr) .nil) (fun v av σ' ow' s' q st g' r => ?_) (fun e c σ' ow' s' q => q.elim)
    · show 1 + claimMargin + 3 * d < recursionLimit
      have : 1 + claimMargin + 300 < recursionLimit := by decide
      omega
    · show 4 + 20 * d + 100 < cLine
      have : 4 + 2000 + 100 < cLine := by decide
      omega
    · rintro (z | z)
      · rcases z with z | z <;> simp at z
      · simp [zss] at z
    · subst q
      cases r
      exact ⟨rfl, fun b o e => g'.stays b o e, st.os, g'.gens⟩
theorem GlobOk.cons {x : Str} {v : AV} {gs : List (Str × AV)} {u : Value} (h : C.mg x = some u) (r : VR C (fun _ => False) C.base v u) (y : GlobOk C gs) : GlobOk C ((x, v) :: gs) := fun x' v' m => by
  rcases List.mem_cons.mp m with e | m
  · cases e; exact ⟨u, h, r⟩
  · exact y x' v' m
theorem GlobOk.nil : GlobOk C [] := fun x v m => nomatch m
end
end Ap
end
section
namespace Ap
open PySem PySem.Calls PyProof.Rows
noncomputable def jb (x : Str) (a b : Nat) : Str := ⟨((x.cps.toList.take b).drop a).toArray⟩
theorem lR (x : Str) (a b : Nat) : (jb x a b).length = min b x.length - a := by
  show (List.toArray _).size = _
  rw [List.size_toArray, List.length_drop, List.length_take]; rfl
noncomputable def tq : O2 := fun a b σ Q => ∃ (x : Str) (i : Int), a = .str x ∧ b = .int i ∧ (0 ≤ i ∧ x.length ≤ 1000000) ∧ Q (.str (jb x 0 i.toNat)) σ
noncomputable def sQ : O2 := fun a b σ Q => ∃ (x : Str) (i : Int), a = .str x ∧ b = .int i ∧ (0 ≤ i ∧ x.length ≤ 1000000) ∧ Q (.str (jb x i.toNat x.length)) σ
noncomputable def Aa (i : Int) : Str := Str.ofString (toString i)
noncomputable def tC : ON := fun vs σ Q => ∃ i, vs = [.int i] ∧ (0 ≤ i ∧ i < 1000000) ∧ Q (.str (Aa i)) σ
section
variable {C : Cx} {T : Tabs} {P : Prg} {F : Calls} {d : Nat} {sc : Scope} {nms : List Str} {q : Bool}
theorem oz (l : List Nat) (a b : Nat) (hb : b ≤ l.length) : ((List.range (b - a)).map fun k => a + k).filterMap (l.toArray[·]?) = (l.take b).drop a := by
  apply List.ext_getElem?
  intro i
  have e : ∀ (m : Nat), a + m ≤ l.length → ((List.range m).map fun k => a + k).filterMap (l.toArray[·]?) = (l.take (a + m)).drop a := by
    intro m
    induction m with
    | zero => intro _; simp
    | succ m ih =>
      intro h
      rw [List.range_succ, List.map_append, List.filterMap_append, ih (by omega)]
      have h1 : l.toArray[a + m]? = some l[a + m] := by rw [List.getElem?_toArray, List.getElem?_eq_getElem (by omega)]
      rw [List.map_cons, List.map_nil, List.filterMap_cons, h1, List.filterMap_nil, ← Nat.add_assoc, List.take_add_one, List.drop_append_of_le_length (by rw [List.length_take]; omega), List.getElem?_eq_getElem (by omega)]
      rfl
  by_cases h : a ≤ b
  · have := e (b - a) (by omega)
    rw [show a + (b - a) = b by omega] at this
    rw [this]
  · rw [show b - a = 0 by omega, List.range_zero, List.map_nil, List.filterMap_nil, List.drop_eq_nil_of_le (by rw [List.length_take]; omega)]
theorem picks (x : Str) (lo hi : Option Int) (h1 : ∀ i, lo = some i → 0 ≤ i) (h2 : ∀ i, hi = some i → 0 ≤ i) :
    ∃ a b : Nat, b ≤ x.length ∧ Builtin.Str.strSliceIndices lo hi 1 x.length = sliceRange (a : Int) (b : Int) 1 ∧ a = min ((lo.getD 0).toNat) x.length ∧ b = min ((hi.getD x.length).toNat) x.length := by
  unfold Builtin.Str.strSliceIndices
  simp only [show ((1 : Int) > 0) = True by simp, if_true]
  refine ⟨min ((lo.getD 0).toNat) x.length, min ((hi.getD x.length).toNat) x.length, Nat.min_le_right _ _, ?_, rfl, rfl⟩
  congr 1
  · cases lo with
    | none => simp
    | some i => have := h1 i rfl; simp only [Option.getD_some]; rw [if_neg (by omega)]; omega
  · cases hi with
    | none => simp
    | some i => have := h2 i rfl; simp only [Option.getD_some]; rw [if_neg (by omega)]; omega
theorem wG {α : Type} (l : List α) {n na nb : Nat} (hl : l.length = n) : (l.take (min nb n)).drop (min na n) = (l.take nb).drop na := by
  by_cases c1 : nb ≤ n
  · rw [Nat.min_eq_left c1]
    by_cases c2 : na ≤ n
    · rw [Nat.min_eq_left c2]
    · rw [List.drop_eq_nil_of_le (by rw [List.length_take]; omega), List.drop_eq_nil_of_le (by rw [List.length_take]; omega)]
  · have m2 : min nb n = n := Nat.min_eq_right (by omega)
    rw [m2, List.take_of_length_le (Nat.le_of_eq hl), List.take_of_length_le (by omega)]
    by_cases c2 : na ≤ n
    · rw [Nat.min_eq_left c2]
    · rw [List.drop_eq_nil_of_le (by omega), List.drop_eq_nil_of_le (by omega)]
theorem qF {A : Around} {envs : Vo} {σ : St} {ow : Nat → Option Nat} {s : Shared} {Qa : PQ} {Q : Value → Shared → Prop} {E : Value → Shared → Prop} {value : Expr} {lower upper : Option Expr} {pp : Pos} {x : Str} {t : Tok} {p1 p2 : Option (Int × Tok)} {sl : Addr} (g : Good C envs σ ow s) (k : KV C envs σ ow s (RV C) Qa Q) (ok : PyData.strOk x = true)
    (h1 : ∀ p, p1 = some p → 0 ≤ p.1) (h2 : ∀ p, p2 = some p → 0 ≤ p.1) (hx : x.length ≤ 1000000) {na nb : Nat} (ha : min (Int.toNat ((p1.map (·.1)).getD 0)) x.length = min na x.length) (hb : min (Int.toNat ((p2.map (·.1)).getD (x.length : Int))) x.length = min nb x.length) (w : Qa (.str (jb x na nb)) σ) (hsl : s.heap.get? sl = some { cls := .type "slice", data := .fields #[partValue p1, partValue p2, .none] }) :
    wpAny (model C.prog C.w) A (subscriptTail value (.Slice lower upper Option.none pp) (.str x t) (.ref sl)) Q E s := by
  refine tail_any (ops := [.ref sl, .str x t]) (typeIs_str _ x t) slot_str_getitem.lookup (wpAny_getItem_str_slice (l := p1) (u := p2) (st := Option.none) ⟨_, hsl, rfl, rfl⟩ rfl ?_) rfl
  obtain ⟨a, b, hbl, e, ea, eb⟩ := picks x (p1.map (·.1)) (p2.map (·.1)) (fun i e => by obtain ⟨p, e', rfl⟩ := Option.map_eq_some_iff.mp e; exact h1 p e') fun i e => by obtain ⟨p, e', rfl⟩ := Option.map_eq_some_iff.mp e; exact h2 p e'
  have e' : slicePicked x p1 p2 Option.none = (List.range (b - a)).map fun k => a + k := by
    unfold slicePicked
    exact e.trans (sliceRange_one a b)
  have hc : (slicePicked x p1 p2 Option.none).filterMap (x.cps[·]?) = (x.cps.toList.take nb).drop na := by
    rw [e']
    have := oz x.cps.toList a b hbl
    rw [show x.cps.toList.toArray = x.cps by simp] at this
    rw [this, ea, eb, ha, hb]
    exact wG _ rfl
  have hk : PyData.strOk ⟨((slicePicked x p1 p2 Option.none).filterMap (x.cps[·]?)).toArray⟩ = true := oG ok fun c hc => by
    obtain ⟨i, _, e⟩ := List.mem_filterMap.mp hc
    exact Array.mem_toList_iff.mpr (Array.mem_of_getElem? e)
  unfold sliceMade
  refine post_val_or_made (fun _ => ?_) fun t' tk => ?_
  · show (List.toArray _).size ≤ sizeLine
    rw [List.size_toArray, hc, List.length_drop, List.length_take]
    have hl : x.cps.toList.length = x.length := rfl
    unfold sizeLine; omega
  · split
    · rename_i hs
      have hl : (slicePicked x p1 p2 Option.none).length = x.length := by simpa using hs
      have hx' : jb x na nb = x := by
        unfold jb
        rw [← hc, e']
        rw [e', List.length_map, List.length_range] at hl
        have : a = 0 ∧ b = x.length ∨ x.length = 0 := by omega
        rcases this with ⟨rfl, rfl⟩ | h0
        · have := oz x.cps.toList 0 x.length (Nat.le_refl _)
          rw [show x.cps.toList.toArray = x.cps by simp] at this
          rw [this, List.drop_zero, List.take_of_length_le (Nat.le_of_eq (show x.cps.toList.length = x.length from rfl))]
        · have hn : x.cps = #[] := Array.eq_empty_of_size_eq_zero h0
          obtain ⟨cs⟩ := x
          cases hn
          simp
      rw [hx'] at w
      exact k.val g tk w (.str _ _ ok)
    · have w' : Qa (.str ⟨((slicePicked x p1 p2 Option.none).filterMap (x.cps[·]?)).toArray⟩) σ := by rw [hc]; exact w
      exact k.val g tk w' (.str _ _ hk)
theorem Both.sliceHiX {e i : WE} {v u : Expr} {pp pos : Pos} (he : Both C d sc nms q e v) (hi : Both C d sc nms q i u) : Both C d sc nms q (vO2 tq e i) (.Subscript v (.Slice Option.none (some u) Option.none pp) pos) :=
  .of rfl fun A env envs ρ hs ha σ ow s Qa Ea Q E w ok kv kx => by
    refine Subscript_ (he.ev A env envs ρ hs ha σ ow s _ Ea _ E w ok (fun va a σ' ow' s' z st g r => ?_) kx)
    refine wpAny_Slice (wpAny_pure (hi.ev A env envs ρ hs ha σ' ow' s' _ Ea _ E z (ok.stp st g) (fun vb b σ'' ow'' s'' z' st' g' r' => wpAny_pure ?_) (kx.stp st g)))
    have r1 := st'.vr r
    obtain ⟨x, i, rfl, rfl, ⟨h0, hx⟩, z'⟩ := z'
    cases r1 with | str _ t hok =>
    cases r' with | int _ t' =>
    have q : ∀ b o', s''.heap.get? b = some o' → (s''.heap.push { cls := .type "slice", data := .fields #[.none, .int i t', .none] }).get? b = some o' := fun _ _ e => Heap.get?_push_of_some _ e
    exact qF (p1 := Option.none) (p2 := some (i, t')) (g'.ext q s''.toks) (((kv.stp st).stp st').stp (Stp.ext q s''.toks)) hok (fun _ e => by cases e) (fun p e => by cases e; exact h0) hx rfl rfl z' (Heap.get?_push_size _ rfl)
theorem Both.sliceLoX {e i : WE} {v u : Expr} {pp pos : Pos} (he : Both C d sc nms q e v) (hi : Both C d sc nms q i u) : Both C d sc nms q (vO2 sQ e i) (.Subscript v (.Slice (some u) Option.none Option.none pp) pos) :=
  .of rfl fun A env envs ρ hs ha σ ow s Qa Ea Q E w ok kv kx => by
    refine Subscript_ (he.ev A env envs ρ hs ha σ ow s _ Ea _ E w ok (fun va a σ' ow' s' z st g r => ?_) kx)
    refine wpAny_Slice (hi.ev A env envs ρ hs ha σ' ow' s' _ Ea _ E z (ok.stp st g) (fun vb b σ'' ow'' s'' z' st' g' r' => wpAny_pure (wpAny_pure ?_)) (kx.stp st g))
    have r1 := st'.vr r
    obtain ⟨x, i, rfl, rfl, ⟨h0, hx⟩, z'⟩ := z'
    cases r1 with | str _ t hok =>
    cases r' with | int _ t' =>
    have q : ∀ b o', s''.heap.get? b = some o' → (s''.heap.push { cls := .type "slice", data := .fields #[.int i t', .none, .none] }).get? b = some o' := fun _ _ e => Heap.get?_push_of_some _ e
    exact qF (p1 := some (i, t')) (p2 := Option.none) (g'.ext q s''.toks) (((kv.stp st).stp st').stp (Stp.ext q s''.toks)) hok (fun p e => by cases e; exact h0) (fun _ e => by cases e) hx rfl (nb := x.length) (by simp) z' (Heap.get?_push_size _ rfl)
theorem xE : fL C true (.type "str") tC := by
  intro A envs σ ow s Qa Q E vs vals hq g k r w
  obtain ⟨i, rfl, hi, w⟩ := w
  cases r with | cons r1 r2 =>
  cases r2; cases r1
  refine str_of_int_fit (N := 1000000) (by split <;> omega) (by decide) fun _ => ?_
  exact k.val g _ w (.str _ _ (ny _))
theorem wv : BiOk C true (Str.ofString "str") tC := ⟨⟨_, by decide +kernel, .inr ⟨_, rfl⟩, xE⟩⟩
end
end Ap
end
section
namespace Ap
open PySem PySem.Calls PyProof.Rows PySem.NumText
noncomputable abbrev ch (c : Nat) : Str := ⟨#[c]⟩
noncomputable abbrev cs (x : Str) : List Nat := x.cps.toList
noncomputable def qh : List AV → Option (List Str) := jc fun v => match v with | .str i => some i | _ => Option.none
noncomputable def vt : OC := fun a b σ K => ∃ x ys ss, a = .str x ∧ b = .tup ys ∧ qh ys = some ss ∧ K (ss.any (· == x))
section
variable {C : Cx} {T : Tabs} {P : Prg} {F : Calls} {d : Nat} {sc : Scope} {nms : List Str} {q : Bool}
theorem tw {Z : Nat → Prop} {h : Heap} : ∀ {ys : List AV} {vs : List Value} {ss : List Str}, VRs C Z h ys vs → qh ys = some ss → StrsAre vs ss := by
  intro ys
  induction ys with
  | nil => intro vs ss r e; cases r; cases e; exact .nil
  | cons y ys ih =>
    intro vs ss r e
    cases r with | cons hd tl =>
    obtain ⟨d, e1, e2⟩ := Option.bind_eq_some_iff.mp e
    obtain ⟨ds, e3, rfl⟩ := Option.map_eq_some_iff.mp e2
    cases hd <;> first | cases e1 | skip
    exact .cons _ _ (ih tl e3)
theorem vq : CmpSnd C .In vt := by
  intro A envs σ ow s K Q E va vb a b hu g ra rb w k
  obtain ⟨x, ys, ss, rfl, rfl, e, w⟩ := w
  cases ra
  cases rb with | tup li off r =>
  exact in_tuple_strs li.isTuple (by rw [List.toList_toArray]; exact tw r e) (k _ s.toks w)
end
end Ap
end
section
namespace Ap
open PySem PySem.Calls PyProof.Rows
noncomputable def Bi (C : Cx) (n : Str) (keys : List Str) : Prop := ∃ a f, C.mg n = some (.ref a) ∧ (a == sysModules) = false ∧ C.base.MapOf (strKind C.prog C.w) a f ∧ ∀ x, (f x).isSome = keys.any (· == x)
noncomputable def GDs (C : Cx) (gds : List (Str × List Str)) : Prop := ∀ n keys, (n, keys) ∈ gds → Bi C n keys
noncomputable def kXT (K : List AV → (St → Prop) → St → Prop) : PQ := fun v σ => ∃ xs, v = .tup xs ∧ K xs (fun _ => True) σ
noncomputable def CE (e : WE) : WX := fun ρ σ K E => e ρ σ (kXT K) E
section
variable {C : Cx} {T : Tabs} {P : Prg} {F : Calls} {d : Nat} {sc : Scope} {nms : List Str} {q : Bool} {gds : List (Str × List Str)}
theorem GDs.nil : GDs C [] := fun _ _ m => nomatch m
theorem GDs.cons {n : Str} {keys : List Str} {gds : List (Str × List Str)} (h : Bi C n keys) (y : GDs C gds) : GDs C ((n, keys) :: gds) := fun n' k' m => by
  rcases List.mem_cons.mp m with e | m
  · cases e; exact h
  · exact y n' k' m
theorem SrcE.tup {e : WE} {v : Expr} {nm : Str} {pp : Pos} (he : Both C d sc nms false e v) : SrcE C d sc nms false (.Name nm pp) v (CE e) where
  snd := fun A env V ρ hs ha σ ow s K Ea Q E w ok kx hQ => by
    refine he.ev A env V ρ hs ha σ ow s _ _ _ E w ok (fun u av σ' ow' s' z st g r => ?_) kx
    obtain ⟨xs, rfl, z⟩ := z
    cases r with | tup li off rr =>
    rename_i l vs
    obtain ⟨hh, gg, dd, tt, oo⟩ := s'
    have hz := li.1
    have hlen := rr.length
    obtain ⟨_, n, hg⟩ := id li
    have hne : l ≠ hh.objs.size := Nat.ne_of_lt (Heap.lt_size hg)
    have nI : hh.get? hh.objs.size = Option.none := Heap.fresh _
    refine wpAny_pyIter_tuple li.isTuple ?_
    have gr : ∀ b o', hh.get? b = some o' → (hh.push { cls := .type "tuple_iterator", data := .fields #[.ref l, .int 0 0] }).get? b = some o' := fun _ _ e => Heap.get?_push_of_some _ e
    have fr : ∀ c ∈ [hh.objs.size], hh.get? c = Option.none ∧ ∃ o', (hh.push { cls := .type "tuple_iterator", data := .fields #[.ref l, .int 0 0] }).get? c = some o' := fun c m => by
      rw [List.mem_singleton.mp m]
      exact ⟨nI, _, Heap.get?_push_size _ rfl⟩
    have ko := (ok.stp st g).open_ (t := tt) (wr := [hh.objs.size]) gr fr
    have zg : Zg (Zs σ' ow' (zss V)) (Zs σ' ow' (zss (V.plus [hh.objs.size]))) hh := fun b y => by
      rcases y with y | y
      · exact .inl (.inl y)
      · rcases Vo.plus_mem y with y | y
        · exact .inl (.inr y)
        · exact .inr (fr b y).1
    refine hQ _ _ _ _ _ σ' ow' _ z (SrcI.ofW (Walks.tuple ok.hnd.none hh.objs.size l hne vs.toArray) (by rw [List.size_toArray]; exact hlen.symm) (fun i h e b hb => ?_)) (st.trans (Stp.ext gr tt)) ko ⟨?_, fun c hc => ?_, fun j y v hj hp => ?_⟩ (fun c m => st.back rfl g c (fr c m).1) (by omega)
    · rw [List.mem_singleton.mp hb]
      obtain ⟨⟨o, e, _⟩, _⟩ := e
      exact ⟨o, e⟩
    · exact ⟨⟨_, Heap.get?_push_size _ rfl, rfl, rfl⟩, ⟨_, gr _ _ hg, rfl, n, rfl⟩⟩
    · rcases List.mem_cons.mp hc with e | hc
      · exact .inl (List.mem_singleton.mpr e)
      · rw [List.mem_singleton.mp hc]
        exact .inr ⟨zg.not hg off, _, gr _ _ hg⟩
    · obtain ⟨u, hu, r1⟩ := (rr.kp (fun b o e _ => gr b o e) zg).get j y hj
      have : v = u := by
        have hp' : vs.toArray[j]? = some v := hp
        rw [List.getElem?_toArray, hu] at hp'
        cases hp'; rfl
      rw [this]; exact r1
end
end Ap
end
section
namespace Ap
open PySem PySem.Calls PyProof.Rows
noncomputable def tu (own : Bool) (Q : PQ) : List AV → St → Prop := fun vs σ => ∃ a b, yV vs = some (a, b) ∧ (a.natAbs < 2 ^ 60 ∧ b.natAbs < 2 ^ 60 ∧ b - a ≤ 1000000) ∧ mkL own (bW a b) σ Q
noncomputable def rh (own : Bool) (es : WL) : WE := fun ρ σ Q E => es ρ σ (tu own Q) E
noncomputable def kz : ON := fun vs σ Q => ∃ l xs, vs = [.obj l] ∧ σ l = some (.list xs) ∧ Q (.int xs.length) σ
section
variable {C : Cx} {T : Tabs} {P : Prg} {d : Nat} {sc : Scope} {nms nms' : List Str} {q : Bool} {A : Around} {V : Vo} {σ σ' : St} {ow ow' : Nat → Option Nat} {s s' : Shared} {env : Env}
theorem xL : fL C true (.builtin "len") kz := by
  intro A envs σ ow s Qa Q E vs vals hq g k r w
  obtain ⟨l, xs, rfl, hs, w⟩ := w
  cases r with | cons r1 r2 =>
  cases r2
  cases r1
  obtain ⟨vs, li, rr⟩ := g.store l _ hs
  refine len_list li.isList (by have := li.1; rw [List.size_toArray]; omega) ?_
  rw [List.size_toArray, ← rr.length]
  exact k.val g _ w (.int _ _)
theorem iH : BiOk C true (Str.ofString "len") kz := ⟨⟨_, by decide +kernel, .inl ⟨_, rfl⟩, xL⟩⟩
theorem sO {Z : Nat → Prop} {h : Heap} {a b : Int} {acc : Array Value} (hi : ItemsOf (fun i v => ∃ t, v = .int (a + i * 1) t) acc (b - a).toNat) : VRs C Z h (bW a b) acc.toList := by
  have key : ∀ (xs : List AV) (vs : List Value), xs.length = vs.length → (∀ (j : Nat) x v, xs[j]? = some x → vs[j]? = some v → VR C Z h x v) → VRs C Z h xs vs := by
    intro xs
    induction xs with
    | nil => intro vs hl _; cases vs with | nil => exact .nil | cons => cases hl
    | cons x xs ih =>
      intro vs hl hh
      cases vs with
      | nil => cases hl
      | cons v vs => exact .cons (hh 0 x v rfl rfl) (ih vs (Nat.succ.inj hl) fun j x v h1 h2 => hh (j + 1) x v h1 h2)
  obtain ⟨h1, h2⟩ := hi
  refine key _ _ (by unfold bW; rw [List.length_map, List.length_range, Array.length_toList, h1]) fun j x v hx hv => ?_
  unfold bW at hx
  rw [List.getElem?_map, Option.map_eq_some_iff] at hx
  obtain ⟨k, hk, rfl⟩ := hx
  have hkj : k = j := by
    obtain ⟨hlt, e⟩ := List.getElem?_eq_some_iff.mp hk
    rw [List.getElem_range] at e
    exact e.symm
  subst hkj
  rw [Array.getElem?_toList] at hv
  obtain ⟨t, rfl⟩ := h2 _ _ hv
  rw [Int.mul_one]
  exact .int _ _
theorem Both.listR (X : CxOk C T P) {own : Bool} {n m : Str} {np mp rp pos : Pos} {es : WL} {xs : List Expr} (h : BothL C d sc nms false es xs) (hl : n = (Str.ofString "list")) (hr : m = (Str.ofString "range")) (hn : n ∈ T.bltN) (hm : m ∈ T.bltN) (h3 : gl sc n = true) (h4 : gl sc m = true) :
    Both C d sc nms false (rh own es) (.Call (.Name n np) [.Call (.Name m mp) xs [] rp] [] pos) :=
  .of rfl fun A env V ρ hs ha σ ow s Qa Ea Q E w ok kv kx => by
    obtain ⟨g1, g2, g3⟩ := eT h3
    obtain ⟨g4, g5, g6⟩ := eT h4
    have hb1 : bootBuiltins n = some (.type "list") := by rw [hl]; decide +kernel
    have hb2 : bootBuiltins m = some (.type "range") := by rw [hr]; decide +kernel
    refine wpAny_Call_ofName (bname X (by unfold Env.kindOf; rw [hs]; exact g1) g2 ok hn g3 hb1 ?_)
    refine PyProof.Rows.callWith_type (bY (by rfl)) (bS (by rfl) ?_)
    rw [cq (by rfl)]
    refine spliced_cons (wpAny_Call_ofName (bname X (by unfold Env.kindOf; rw [hs]; exact g4) g5 ok hm g6 hb2 ?_))
    refine PyProof.Rows.callWith_type (bY h.stars) (bS h.stars (h.snd hs ha σ ow s _ Ea _ E w ok (fun vs avs σ' ow' s' z st g r => ?_) kx))
    obtain ⟨a, b, hab, ⟨ha1, hb1, hlen⟩, z⟩ := z
    obtain ⟨hsm, hsz⟩ := qt ha1 hb1
    have hh := ok.hnd.none
    have fin : ∀ (h₁ : Heap) (tk : Nat) (R : Addr) (t u v : Tok), (∀ b o, s'.heap.get? b = some o → h₁.get? b = some o) → IsRange h₁ R a b 1 t u v → wpAny (model C.prog C.w) A (PySem.call (.type "list") [.ref R]) Q E { s' with heap := h₁, toks := tk } := fun h₁ tk R t u v gr1 hR => by
      refine call_list_range hh hR hsm hsz (by have : (2 : Nat) ^ 24 = 16777216 := rfl; omega) fun h' tk' acc' c' hk hS' hacc => ?_
      have gr : ∀ b o, s'.heap.get? b = some o → h'.get? b = some o := fun b o e => hk b o (gr1 b o e)
      have nI : s'.heap.get? h₁.objs.size = Option.none := by
        cases e : s'.heap.get? h₁.objs.size with
        | none => rfl
        | some o => exact absurd (Heap.lt_size (gr1 _ _ e)) (Nat.lt_irrefl _)
      have e1 : acc'.toList.toArray = acc' := by simp
      refine oh (n := c') (vs := acc'.toList) g (kv.stp st) gr nI (by rw [kA, e1]; exact hS') ?_ z (sO hacc)
      rw [Array.length_toList, hacc.1]; omega
    obtain ⟨r, _⟩ := r
    cases r with
    | nil => cases hab
    | cons r1 r2 =>
      cases r2 with
      | nil =>
        cases r1 <;> cases hab
        exact call_range_1 (spliced_nil (fin _ _ _ _ _ _ (fun _ _ e => Heap.get?_push_of_some _ e) (Heap.get?_push_size _ rfl)))
      | cons r2 r3 =>
        cases r3 with
        | nil =>
          cases r1 <;> first | cases hab | skip
          cases r2 <;> cases hab
          exact call_range_2 (spliced_nil (fin _ _ _ _ _ _ (fun _ _ e => Heap.get?_push_of_some _ e) (Heap.get?_push_size _ rfl)))
        | cons r3 r4 => cases r1 <;> first | cases hab | (cases r2 <;> cases hab)
end
end Ap
end
section
namespace Ap
open PySem
section
variable {F : Calls} {ρ : Loc} {σ : St} {Q : PQ} {E : PE} {QQ : QS} {EE : ES} {K : Bool → Prop} {a b c e : WE} {l n m i j : Nat} {x y : Int} {u v : AV} {vs xs ys : List AV} {t : Ty}
theorem qY {is : List Nat} : uY is e ρ σ QQ EE = e ρ σ (zL is ρ QQ) (kE EE ρ) := rfl
theorem qm {is : List Nat} (h : xs.length = is.length) : zL is ρ QQ (.tup xs) σ = QQ .next (kB ρ is xs) σ := propext ⟨fun ⟨_, e, _, q⟩ => by cases e; exact q, fun q => ⟨_, rfl, h, q⟩⟩
theorem iq : kB ρ [] [] = ρ := rfl
theorem ix {is : List Nat} : kB ρ (i :: is) (v :: vs) = kB (setL ρ i v) is vs := rfl
theorem vd : qS [.tup xs] σ Q = Q (.int xs.length) σ := propext ⟨fun ⟨_, e, q⟩ => by cases e; exact q, fun q => ⟨_, rfl, q⟩⟩
theorem BS {ns : List Int} (h : pU ys = some ns) : xS (.int x) (.tup ys) σ K = K (ns.any (· == x)) := propext ⟨fun ⟨_, _, _, e1, e2, e3, q⟩ => by cases e1; cases e2; rw [h] at e3; cases e3; exact q, fun q => ⟨_, _, _, rfl, rfl, h, q⟩⟩
theorem AC : wi false (.ilist xs) (.ilist ys) σ Q = (xs.length + ys.length ≤ 1000000 ∧ Q (.ilist (xs ++ ys)) σ) := propext ⟨fun ⟨_, _, e1, e2, h, q⟩ => by cases e1; cases e2; exact ⟨h, q⟩, fun ⟨h, q⟩ => ⟨_, _, rfl, rfl, h, q⟩⟩
theorem dM (h : σ l = some (.list xs)) : cH (.obj l) (.int x) σ Q = (0 ≤ x ∧ kn Q σ xs[x.toNat]?) := propext ⟨fun ⟨_, _, _, e1, e2, e3, q⟩ => by cases e1; cases e2; rw [h] at e3; cases e3; exact q, fun q => ⟨_, _, _, rfl, rfl, h, q⟩⟩
theorem xV {s : Str} : tq (.str s) (.int x) σ Q = ((0 ≤ x ∧ s.length ≤ 1000000) ∧ Q (.str (jb s 0 x.toNat)) σ) := propext ⟨fun ⟨_, _, e1, e2, q⟩ => by cases e1; cases e2; exact q, fun q => ⟨_, _, rfl, rfl, q⟩⟩
theorem yI {s : Str} : sQ (.str s) (.int x) σ Q = ((0 ≤ x ∧ s.length ≤ 1000000) ∧ Q (.str (jb s x.toNat s.length)) σ) := propext ⟨fun ⟨_, _, e1, e2, q⟩ => by cases e1; cases e2; exact q, fun q => ⟨_, _, rfl, rfl, q⟩⟩
theorem zA : tC [.int x] σ Q = ((0 ≤ x ∧ x < 1000000) ∧ Q (.str (Aa x)) σ) := propext ⟨fun ⟨_, e, q⟩ => by cases e; exact q, fun q => ⟨_, rfl, q⟩⟩
end
end Ap
end
section
namespace Ap.L08
open PySem PySem.W PySem.Calls PyProof.Rows
noncomputable abbrev pw : Program := PySem.Challenge.pw_uf020020_08
noncomputable abbrev sS (x : String) : Str := Str.ofString x
noncomputable def en (P : Params) (x : String) (t : Tok) (v : Value) : DictEntry := ⟨PyData.keyHash P (Str.ofString x), .str (Str.ofString x) t, v⟩
noncomputable def AS (l : List Stmt) (i : Nat) : Arguments := match l[i]? with | some (.FunctionDef _ a _ _ _ _ _ _ _ _) => a | _ => default
noncomputable def m0 : Nat := 11
noncomputable def ann : Option Value := (some (.ref 6))
noncomputable def env : Env := { scope := pw.main.scope, locals := mainNs, globals := mainNs, cells := [], code := (.ref 13), frame := some 14 }
noncomputable def B : List Frame := [topFrame ⟨0, 0, 0, 0⟩]
noncomputable def cE : Code := .body (behindTheImports pw) env
noncomputable def S0 (w : World) (os : OsState) : Shared := ⟨boot_heap w.params, ⟨[]⟩, boot_drawn, boot_toks, os⟩
noncomputable def sV (s : String) (n : Tok) : Value := .str (sS s) n
noncomputable def tT (xs : List Value) : Obj := ⟨.type "tuple", none, .seq ⟨xs⟩ 0, ⟨[]⟩⟩
noncomputable def zO : Obj := ⟨.none, none, .fields ⟨[]⟩, ⟨[]⟩⟩
noncomputable def cO (a : String) (a' : Tok) (b : String) (b' c' : Tok) (l n m : Int) (r : Addr) (t : Bool) (q : Int) (r' : Addr) (x1 x2 x3 x4 : Value) (k l' : Int) (d' : Tok) : Obj := ⟨.type "code", none, .fields ⟨[sV a a', sV b b', sV "/claim/cut.py" c', .int l 0, .int n 0, .int 0 0, .int 0 0, .int m 0, .ref r, .bool t, .int q 0, .ref r', x1, x2, x3, x4, .int k 0, .int l' 0, sV "/claim/cut.py" d']⟩, ⟨[]⟩⟩
noncomputable def fO (a b : String) (x : List Stmt) (i : Nat) : Obj := ⟨.none, none, .func { name := sS a, qualname := sS b, params := AS x i, body := .stmts (cy x i), scope := cA x i, globals := 0, closure := [], defaults := .none, kwdefaults := .none, doc := .none, pyModule := .none, annotations := none, code := .none, closureTuple := .none, builtins := 0 }, ⟨[]⟩⟩
noncomputable def gO (a b : String) (x : List Stmt) (i : Nat) (m : Value) (c : Addr) : Obj := ⟨.type "function", none, .func { name := sS a, qualname := sS b, params := AS x i, body := .stmts (cy x i), scope := cA x i, globals := 3, closure := [], defaults := .none, kwdefaults := .none, doc := .none, pyModule := m, annotations := none, code := .ref c, closureTuple := .none, builtins := 0 }, ⟨[]⟩⟩
noncomputable def nN (x : Obj) (a b : BT) : BT := .node x a b
noncomputable def lN (x : Obj) : BT := .node x .nil .nil
noncomputable def dG (P : Params) : Obj := tT []
noncomputable def dI (P : Params) : Obj := cO "<module>" 182 "<module>" 183 184 1 0 0 11 false 181 12 .none .none .none .none 185 1 186
noncomputable def dK (P : Params) : Obj := ⟨(.type "frame"), none, .plain, ⟨[(some (.ref 13)), (some (.ref 3)), (some (.ref 3)), none, (some (sV "__main__" 164)), none, (some (.ref 0))]⟩⟩
noncomputable def lf0 : Life := ⟨[], [], [], 0, [], [], false, ⟨[]⟩, [], 0, false, false, false, 0, [2000, 10, 10], false, 0, true, [], [], 0, false⟩
noncomputable def Sah (P : Params) : Heap := ⟨⟨[boot_o_0 P, boot_o_1 P, boot_o_2 P, boot_o_3 P, boot_o_4 P, boot_o_5 P, boot_o_6 P, boot_o_7 P, boot_o_8 P, boot_o_9 P, boot_o_10 P, dG P, (zO), dI P, dK P]⟩, lf0⟩
noncomputable def Sa (w : World) (os : OsState) : Shared := ⟨Sah w.params, ⟨[]⟩, ⟨0, 0, 0, 0⟩, 187, os⟩
noncomputable def Sb (w : World) (os : OsState) : SharedT := (fun P => ⟨(nN (boot_o_0 P) (nN (boot_o_1 P) (nN (boot_o_3 P) (lN (boot_o_7 P)) (lN (dG P))) (nN (boot_o_5 P) (lN (boot_o_9 P)) (lN (dI P)))) (nN (boot_o_2 P) (nN (boot_o_4 P) (lN (boot_o_8 P)) (lN (zO))) (nN (boot_o_6 P) (lN (boot_o_10 P)) (lN (dK P))))), 15, lf0, ⟨[]⟩, ⟨0, 0, 0, 0⟩, 187, os⟩ : Params → SharedT) w.params
noncomputable def Bw (w : World) : Prop := (fun os => topGo treeTable pw w m0 ann 12 (S0 w os) (topStub pw)) = fun os => some (Sa w os, ⟨denote treeTable cE, cE, ⟨0, 0, 0, 0⟩, B⟩)
theorem pre (w : World) : Bw w := by
  unfold Bw
  rw [PySem.W.Fast.te15667345088766844465, PySem.W.Fast.te14364793385576792824, PySem.W.Fast.te11892475500146522536]
  kernel_rfl
noncomputable def BF (w : World) : Prop := (fun os => segRun treeTable pw w m0 ann 1 1 (Sa w os) (blockOf (behindTheImports pw) env cE ⟨0, 0, 0, 0⟩ B)) = fun os => some (Flow.next, (Sb w os).abs, cE, ⟨0, 0, 0, 0⟩)
theorem blk (w : World) : BF w := by
  unfold BF
  rw [PySem.W.Fast.te14374325043358763698, PySem.W.Fast.te14364793385576792824]
  kernel_rfl
noncomputable def dQ (P : Params) : Obj := tT []
noncomputable def eA (P : Params) : Obj := zO
noncomputable def dT (P : Params) : Obj := tT [(sV "k" 190)]
noncomputable def dU (P : Params) : Obj := tT []
noncomputable def eE (P : Params) : Obj := fO "_wall" "_wall" pw.main.body 0
noncomputable def dR (P : Params) : Obj := cO "_wall" 187 "_wall" 188 189 1 1 3 15 true 181 16 .none (.ref 17) (.ref 18) (.ref 19) 191 1 192
noncomputable def eN (P : Params) : Obj := gO "_wall" "_wall" pw.main.body 0 (sV "__main__" 164) 20
noncomputable def eM (P : Params) : Obj := tT [(.type "ValueError")]
noncomputable def eV (P : Params) : Obj := ⟨(.type "builtin_function_or_method"), none, (.fields ⟨[(.builtin "type.__prepare__"), (.type "type")]⟩), ⟨[]⟩⟩
noncomputable def eJ (P : Params) : Obj := ⟨(.type "dict"), none, (.dict ⟨[en P "__module__" 203 (sV "ringpost.errors" 194), en P "__qualname__" 205 (sV "PostError" 204), en P "__firstlineno__" 207 (.int (5) 206), en P "__static_attributes__" 208 (.ref 29)]⟩ 4), ⟨[]⟩⟩
noncomputable def eK (P : Params) : Obj := tT []
noncomputable def ez (P : Params) : Obj := zO
noncomputable def eH (P : Params) : Obj := cO "PostError" 198 "PostError" 199 200 5 0 0 25 false 181 26 .none .none .none .none 201 5 202
noncomputable def ei (P : Params) : Obj := ⟨(.type "frame"), none, .plain, ⟨[(some (.ref 27)), (some (.ref 3)), (some (.ref 24)), none, (some (sV "ringpost.errors" 194)), none, (some (.ref 0))]⟩⟩
noncomputable def dX (P : Params) : Obj := tT []
noncomputable def dW (P : Params) : Obj := ⟨(.type "dict"), none, (.dict ⟨[en P "__module__" 203 (sV "ringpost.errors" 194), en P "__firstlineno__" 207 (.int (5) 206), en P "__static_attributes__" 208 (.ref 29), en P "__weakref__" 210 (.ref 32), en P "__doc__" 211 .none]⟩ 3), ⟨[]⟩⟩
noncomputable def eD (P : Params) : Obj := ⟨(.type "getset_descriptor"), none, (.fields ⟨[(sV "__weakref__" 209), (.ref 31), (.builtin "ExceptionGroup.__weakref__"), .none]⟩), ⟨[]⟩⟩
noncomputable def fh (P : Params) : Obj := ⟨(.type "super"), none, (.fields ⟨[(.ref 31), (.ref 31), (.ref 31)]⟩), ⟨[]⟩⟩
noncomputable def eu (P : Params) : Obj := ⟨(.type "builtin_function_or_method"), none, (.fields ⟨[(.builtin "object.__init_subclass__"), (.ref 31)]⟩), ⟨[]⟩⟩
noncomputable def S1 (w : World) (os : OsState) : SharedT := (fun P => ⟨(nN (boot_o_0 P) (nN (boot_o_1 P) (nN (⟨(.type "dict"), none, (.dict ⟨[en P "__name__" 165 (sV "ringpost.errors" 194), en P "__doc__" 166 .none, en P "__package__" 167 .none, en P "__loader__" 168 (.builtin "__main__.__loader__#opaque"), en P "__spec__" 169 .none, en P "__annotations__" 170 (.ref 6), en P "__builtins__" 171 (.ref 4), en P "__file__" 173 (sV "/claim/cut.py" 172), en P "__cached__" 174 .none, en P "_wall" 193 (.ref 21), en P "PostError" 213 (.ref 31)]⟩ 11), ⟨[]⟩⟩) (nN (boot_o_7 P) (nN (dQ P) (lN (⟨(.type "type"), none, (.cls { name := (sS "PostError"), bases := [(.type "ValueError")], mro := [(.ref 31), (.type "ValueError"), (.type "Exception"), (.type "BaseException"), (.type "object")], ns := 30, qualname := (sS "PostError"), hasDict := true, slotNames := [], subclasses := [], abstract := false, collection := none, hasDel := false }), ⟨[(some (.ref 22)), none, (some (sV "PostError" 196)), (some (sV "PostError" 204)), (some (.builtin "ValueError.__new__")), (some (.bool true))]⟩⟩)) .nil) (lN (eV P))) (nN (dG P) (lN (eE P)) (lN (eH P)))) (nN (boot_o_5 P) (nN (boot_o_9 P) (nN (dT P) (lN (fh P)) .nil) (lN (eK P))) (nN (dI P) (lN (eN P)) (lN (dX P))))) (nN (boot_o_2 P) (nN (boot_o_4 P) (nN (boot_o_8 P) (nN (eA P) (lN (eD P)) .nil) (lN (eJ P))) (nN (⟨.none, none, (.fields ⟨[(.int (1) 0), (.int (0) 0), (.ref 20), (.int (5) 0), (.int (0) 0), (.ref 27)]⟩), ⟨[]⟩⟩) (lN (dR P)) (lN (ei P)))) (nN (boot_o_6 P) (nN (boot_o_10 P) (nN (dU P) (lN (eu P)) .nil) (lN (ez P))) (nN (dK P) (lN (eM P)) (lN (dW P)))))), 35, lf0, ⟨[]⟩, ⟨0, 0, 0, 0⟩, 214, os⟩ : Params → SharedT) w.params
noncomputable def BA : List Stmt := ((behindTheImports pw).drop 0).take 3
noncomputable def Bo (w : World) : Prop := (fun os => segRunT treeTable pw w m0 ann 1 225 (Sb w os) (piecesOf BA env cE ⟨0, 0, 0, 0⟩ B)) = fun os => some (Flow.next, S1 w os, cE, ⟨5, 0, 6, 8⟩)
theorem pc0 (w : World) : Bo w := by
  unfold Bo
  rw [PySem.W.Fast.te10110043849684766642, PySem.W.Fast.te14364793385576792824]
  kernel_rfl
noncomputable def eQ (P : Params) : Obj := tT [(.ref 31)]
noncomputable def eZ (P : Params) : Obj := ⟨(.type "builtin_function_or_method"), none, (.fields ⟨[(.builtin "type.__prepare__"), (.type "type")]⟩), ⟨[]⟩⟩
noncomputable def fI (P : Params) : Obj := ⟨(.type "dict"), none, (.dict ⟨[en P "__module__" 221 (sV "ringpost.errors" 194), en P "__qualname__" 223 (sV "BadBounds" 222), en P "__firstlineno__" 225 (.int (7) 224), en P "__static_attributes__" 226 (.ref 42)]⟩ 4), ⟨[]⟩⟩
noncomputable def fE (P : Params) : Obj := tT []
noncomputable def fq (P : Params) : Obj := zO
noncomputable def fj (P : Params) : Obj := cO "BadBounds" 216 "BadBounds" 217 218 7 0 0 38 false 181 39 .none .none .none .none 219 7 220
noncomputable def fn (P : Params) : Obj := ⟨(.type "frame"), none, .plain, ⟨[(some (.ref 40)), (some (.ref 3)), (some (.ref 37)), none, (some (sV "ringpost.errors" 194)), none, (some (.ref 0))]⟩⟩
noncomputable def eI (P : Params) : Obj := tT []
noncomputable def eR (P : Params) : Obj := ⟨(.type "dict"), none, (.dict ⟨[en P "__module__" 221 (sV "ringpost.errors" 194), en P "__firstlineno__" 225 (.int (7) 224), en P "__static_attributes__" 226 (.ref 42), en P "__doc__" 227 .none]⟩ 2), ⟨[]⟩⟩
noncomputable def eO (P : Params) : Obj := ⟨(.type "type"), none, (.cls { name := (sS "BadBounds"), bases := [(.ref 31)], mro := [(.ref 44), (.ref 31), (.type "ValueError"), (.type "Exception"), (.type "BaseException"), (.type "object")], ns := 43, qualname := (sS "BadBounds"), hasDict := true, slotNames := [], subclasses := [], abstract := false, collection := none, hasDel := false }), ⟨[(some (.ref 35)), none, (some (sV "BadBounds" 214)), (some (sV "BadBounds" 222)), (some (.builtin "ValueError.__new__")), (some (.bool true))]⟩⟩
noncomputable def eX (P : Params) : Obj := ⟨(.type "super"), none, (.fields ⟨[(.ref 44), (.ref 44), (.ref 44)]⟩), ⟨[]⟩⟩
noncomputable def fg (P : Params) : Obj := ⟨(.type "builtin_function_or_method"), none, (.fields ⟨[(.builtin "object.__init_subclass__"), (.ref 44)]⟩), ⟨[]⟩⟩
noncomputable def S2 (w : World) (os : OsState) : SharedT := (fun P => ⟨(nN (boot_o_0 P) (nN (boot_o_1 P) (nN (⟨(.type "dict"), none, (.dict ⟨[en P "__name__" 165 (sV "ringpost.errors" 194), en P "__doc__" 166 .none, en P "__package__" 167 .none, en P "__loader__" 168 (.builtin "__main__.__loader__#opaque"), en P "__spec__" 169 .none, en P "__annotations__" 170 (.ref 6), en P "__builtins__" 171 (.ref 4), en P "__file__" 173 (sV "/claim/cut.py" 172), en P "__cached__" 174 .none, en P "_wall" 193 (.ref 21), en P "PostError" 213 (.ref 31), en P "BadBounds" 229 (.ref 44)]⟩ 12), ⟨[]⟩⟩) (nN (boot_o_7 P) (nN (dQ P) (lN (⟨(.type "type"), none, (.cls { name := (sS "PostError"), bases := [(.type "ValueError")], mro := [(.ref 31), (.type "ValueError"), (.type "Exception"), (.type "BaseException"), (.type "object")], ns := 30, qualname := (sS "PostError"), hasDict := true, slotNames := [], subclasses := [(.ref 44)], abstract := false, collection := none, hasDel := false }), ⟨[(some (.ref 22)), none, (some (sV "PostError" 196)), (some (sV "PostError" 204)), (some (.builtin "ValueError.__new__")), (some (.bool true))]⟩⟩)) .nil) (nN (eV P) (lN (fq P)) .nil)) (nN (dG P) (nN (eE P) (lN (eQ P)) .nil) (nN (eH P) (lN (eR P)) .nil))) (nN (boot_o_5 P) (nN (boot_o_9 P) (nN (dT P) (lN (fh P)) .nil) (nN (eK P) (lN (fn P)) .nil)) (nN (dI P) (nN (eN P) (lN (fI P)) .nil) (nN (dX P) (lN (eX P)) .nil)))) (nN (boot_o_2 P) (nN (boot_o_4 P) (nN (boot_o_8 P) (nN (eA P) (lN (eD P)) .nil) (nN (eJ P) (lN (fj P)) .nil)) (nN (⟨.none, none, (.fields ⟨[(.int (1) 0), (.int (0) 0), (.ref 20), (.int (5) 0), (.int (0) 0), (.ref 27), (.int (7) 0), (.int (0) 0), (.ref 40)]⟩), ⟨[]⟩⟩) (nN (dR P) (lN (eZ P)) .nil) (nN (ei P) (lN (eO P)) .nil))) (nN (boot_o_6 P) (nN (boot_o_10 P) (nN (dU P) (lN (eu P)) .nil) (nN (ez P) (lN (eI P)) .nil)) (nN (dK P) (nN (eM P) (lN (fE P)) .nil) (nN (dW P) (lN (fg P)) .nil))))), 47, lf0, ⟨[]⟩, ⟨0, 0, 0, 0⟩, 230, os⟩ : Params → SharedT) w.params
noncomputable def Cl : List Stmt := ((behindTheImports pw).drop 3).take 1
noncomputable def AX (w : World) : Prop := (fun os => segRunT treeTable pw w m0 ann 1 214 (S1 w os) (piecesOf Cl env cE ⟨5, 0, 6, 8⟩ B)) = fun os => some (Flow.next, S2 w os, cE, ⟨7, 0, 8, 8⟩)
theorem pc1 (w : World) : AX w := by
  unfold AX
  rw [PySem.W.Fast.te10110043849684766642, PySem.W.Fast.te14364793385576792824]
  kernel_rfl
noncomputable def fc (P : Params) : Obj := tT [(.ref 31)]
noncomputable def gP (P : Params) : Obj := ⟨(.type "builtin_function_or_method"), none, (.fields ⟨[(.builtin "type.__prepare__"), (.type "type")]⟩), ⟨[]⟩⟩
noncomputable def gX (P : Params) : Obj := ⟨(.type "dict"), none, (.dict ⟨[en P "__module__" 237 (sV "ringpost.errors" 194), en P "__qualname__" 239 (sV "BadRing" 238), en P "__firstlineno__" 241 (.int (9) 240), en P "__static_attributes__" 242 (.ref 54)]⟩ 4), ⟨[]⟩⟩
noncomputable def gW (P : Params) : Obj := cO "BadRing" 232 "BadRing" 233 234 9 0 0 50 false 181 51 .none .none .none .none 235 9 236
noncomputable def hN (P : Params) : Obj := ⟨(.type "frame"), none, .plain, ⟨[(some (.ref 52)), (some (.ref 3)), (some (.ref 49)), none, (some (sV "ringpost.errors" 194)), none, (some (.ref 0))]⟩⟩
noncomputable def fN (P : Params) : Obj := ⟨(.type "dict"), none, (.dict ⟨[en P "__module__" 237 (sV "ringpost.errors" 194), en P "__firstlineno__" 241 (.int (9) 240), en P "__static_attributes__" 242 (.ref 54), en P "__doc__" 243 .none]⟩ 2), ⟨[]⟩⟩
noncomputable def fH (P : Params) : Obj := ⟨(.type "type"), none, (.cls { name := (sS "BadRing"), bases := [(.ref 31)], mro := [(.ref 56), (.ref 31), (.type "ValueError"), (.type "Exception"), (.type "BaseException"), (.type "object")], ns := 55, qualname := (sS "BadRing"), hasDict := true, slotNames := [], subclasses := [], abstract := false, collection := none, hasDel := false }), ⟨[(some (.ref 47)), none, (some (sV "BadRing" 230)), (some (sV "BadRing" 238)), (some (.builtin "ValueError.__new__")), (some (.bool true))]⟩⟩
noncomputable def gU (P : Params) : Obj := ⟨(.type "super"), none, (.fields ⟨[(.ref 56), (.ref 56), (.ref 56)]⟩), ⟨[]⟩⟩
noncomputable def gQ (P : Params) : Obj := ⟨(.type "builtin_function_or_method"), none, (.fields ⟨[(.builtin "object.__init_subclass__"), (.ref 56)]⟩), ⟨[]⟩⟩
noncomputable def S3 (w : World) (os : OsState) : SharedT := (fun P => ⟨(nN (boot_o_0 P) (nN (boot_o_1 P) (nN (⟨(.type "dict"), none, (.dict ⟨[en P "__name__" 165 (sV "ringpost.errors" 194), en P "__doc__" 166 .none, en P "__package__" 167 .none, en P "__loader__" 168 (.builtin "__main__.__loader__#opaque"), en P "__spec__" 169 .none, en P "__annotations__" 170 (.ref 6), en P "__builtins__" 171 (.ref 4), en P "__file__" 173 (sV "/claim/cut.py" 172), en P "__cached__" 174 .none, en P "_wall" 193 (.ref 21), en P "PostError" 213 (.ref 31), en P "BadBounds" 229 (.ref 44), en P "BadRing" 245 (.ref 56)]⟩ 13), ⟨[]⟩⟩) (nN (boot_o_7 P) (nN (dQ P) (lN (⟨(.type "type"), none, (.cls { name := (sS "PostError"), bases := [(.type "ValueError")], mro := [(.ref 31), (.type "ValueError"), (.type "Exception"), (.type "BaseException"), (.type "object")], ns := 30, qualname := (sS "PostError"), hasDict := true, slotNames := [], subclasses := [(.ref 44), (.ref 56)], abstract := false, collection := none, hasDel := false }), ⟨[(some (.ref 22)), none, (some (sV "PostError" 196)), (some (sV "PostError" 204)), (some (.builtin "ValueError.__new__")), (some (.bool true))]⟩⟩)) (lN (fc P))) (nN (eV P) (lN (fq P)) (lN (fN P)))) (nN (dG P) (nN (eE P) (lN (eQ P)) (lN (zO))) (nN (eH P) (lN (eR P)) .nil))) (nN (boot_o_5 P) (nN (boot_o_9 P) (nN (dT P) (lN (fh P)) (lN (gX P))) (nN (eK P) (lN (fn P)) (lN (gU P)))) (nN (dI P) (nN (eN P) (lN (fI P)) (lN (hN P))) (nN (dX P) (lN (eX P)) .nil)))) (nN (boot_o_2 P) (nN (boot_o_4 P) (nN (boot_o_8 P) (nN (eA P) (lN (eD P)) (lN (gP P))) (nN (eJ P) (lN (fj P)) (lN (fH P)))) (nN (⟨.none, none, (.fields ⟨[(.int (1) 0), (.int (0) 0), (.ref 20), (.int (5) 0), (.int (0) 0), (.ref 27), (.int (7) 0), (.int (0) 0), (.ref 40), (.int (9) 0), (.int (0) 0), (.ref 52)]⟩), ⟨[]⟩⟩) (nN (dR P) (lN (eZ P)) (lN (gW P))) (nN (ei P) (lN (eO P)) .nil))) (nN (boot_o_6 P) (nN (boot_o_10 P) (nN (dU P) (lN (eu P)) (lN (tT []))) (nN (ez P) (lN (eI P)) (lN (gQ P)))) (nN (dK P) (nN (eM P) (lN (fE P)) (lN (tT []))) (nN (dW P) (lN (fg P)) .nil))))), 59, lf0, ⟨[]⟩, ⟨0, 0, 0, 0⟩, 246, os⟩ : Params → SharedT) w.params
noncomputable def Bc : List Stmt := ((behindTheImports pw).drop 4).take 1
noncomputable def Cq (w : World) : Prop := (fun os => segRunT treeTable pw w m0 ann 1 214 (S2 w os) (piecesOf Bc env cE ⟨7, 0, 8, 8⟩ B)) = fun os => some (Flow.next, S3 w os, cE, ⟨9, 0, 10, 8⟩)
theorem pc2 (w : World) : Cq w := by
  unfold Cq
  rw [PySem.W.Fast.te10110043849684766642, PySem.W.Fast.te14364793385576792824]
  kernel_rfl
noncomputable def gS (P : Params) : Obj := tT [(.ref 31)]
noncomputable def ir (P : Params) : Obj := ⟨(.type "builtin_function_or_method"), none, (.fields ⟨[(.builtin "type.__prepare__"), (.type "type")]⟩), ⟨[]⟩⟩
noncomputable def iD (P : Params) : Obj := ⟨(.type "dict"), none, (.dict ⟨[en P "__module__" 253 (sV "ringpost.errors" 194), en P "__qualname__" 255 (sV "BadTexts" 254), en P "__firstlineno__" 257 (.int (11) 256), en P "__static_attributes__" 258 (.ref 66)]⟩ 4), ⟨[]⟩⟩
noncomputable def iQ (P : Params) : Obj := cO "BadTexts" 248 "BadTexts" 249 250 11 0 0 62 false 181 63 .none .none .none .none 251 11 252
noncomputable def ie (P : Params) : Obj := ⟨(.type "frame"), none, .plain, ⟨[(some (.ref 64)), (some (.ref 3)), (some (.ref 61)), none, (some (sV "ringpost.errors" 194)), none, (some (.ref 0))]⟩⟩
noncomputable def fM (P : Params) : Obj := tT []
noncomputable def fF (P : Params) : Obj := ⟨(.type "dict"), none, (.dict ⟨[en P "__module__" 253 (sV "ringpost.errors" 194), en P "__firstlineno__" 257 (.int (11) 256), en P "__static_attributes__" 258 (.ref 66), en P "__doc__" 259 .none]⟩ 2), ⟨[]⟩⟩
noncomputable def fP (P : Params) : Obj := ⟨(.type "type"), none, (.cls { name := (sS "BadTexts"), bases := [(.ref 31)], mro := [(.ref 68), (.ref 31), (.type "ValueError"), (.type "Exception"), (.type "BaseException"), (.type "object")], ns := 67, qualname := (sS "BadTexts"), hasDict := true, slotNames := [], subclasses := [], abstract := false, collection := none, hasDel := false }), ⟨[(some (.ref 59)), none, (some (sV "BadTexts" 246)), (some (sV "BadTexts" 254)), (some (.builtin "ValueError.__new__")), (some (.bool true))]⟩⟩
noncomputable def iJ (P : Params) : Obj := ⟨(.type "super"), none, (.fields ⟨[(.ref 68), (.ref 68), (.ref 68)]⟩), ⟨[]⟩⟩
noncomputable def ip (P : Params) : Obj := ⟨(.type "builtin_function_or_method"), none, (.fields ⟨[(.builtin "object.__init_subclass__"), (.ref 68)]⟩), ⟨[]⟩⟩
noncomputable def S4 (w : World) (os : OsState) : SharedT := (fun P => ⟨(nN (boot_o_0 P) (nN (boot_o_1 P) (nN (⟨(.type "dict"), none, (.dict ⟨[en P "__name__" 165 (sV "ringpost.errors" 194), en P "__doc__" 166 .none, en P "__package__" 167 .none, en P "__loader__" 168 (.builtin "__main__.__loader__#opaque"), en P "__spec__" 169 .none, en P "__annotations__" 170 (.ref 6), en P "__builtins__" 171 (.ref 4), en P "__file__" 173 (sV "/claim/cut.py" 172), en P "__cached__" 174 .none, en P "_wall" 193 (.ref 21), en P "PostError" 213 (.ref 31), en P "BadBounds" 229 (.ref 44), en P "BadRing" 245 (.ref 56), en P "BadTexts" 261 (.ref 68)]⟩ 14), ⟨[]⟩⟩) (nN (boot_o_7 P) (nN (dQ P) (nN (⟨(.type "type"), none, (.cls { name := (sS "PostError"), bases := [(.type "ValueError")], mro := [(.ref 31), (.type "ValueError"), (.type "Exception"), (.type "BaseException"), (.type "object")], ns := 30, qualname := (sS "PostError"), hasDict := true, slotNames := [], subclasses := [(.ref 44), (.ref 56), (.ref 68)], abstract := false, collection := none, hasDel := false }), ⟨[(some (.ref 22)), none, (some (sV "PostError" 196)), (some (sV "PostError" 204)), (some (.builtin "ValueError.__new__")), (some (.bool true))]⟩⟩) (lN (zO)) .nil) (lN (fc P))) (nN (eV P) (lN (fq P)) (lN (fN P)))) (nN (dG P) (nN (eE P) (nN (eQ P) (lN (fF P)) .nil) (lN (zO))) (nN (eH P) (lN (eR P)) (lN (gS P))))) (nN (boot_o_5 P) (nN (boot_o_9 P) (nN (dT P) (nN (fh P) (lN (ie P)) .nil) (lN (gX P))) (nN (eK P) (lN (fn P)) (lN (gU P)))) (nN (dI P) (nN (eN P) (nN (fI P) (lN (iJ P)) .nil) (lN (hN P))) (nN (dX P) (lN (eX P)) (lN (iD P)))))) (nN (boot_o_2 P) (nN (boot_o_4 P) (nN (boot_o_8 P) (nN (eA P) (nN (eD P) (lN (iQ P)) .nil) (lN (gP P))) (nN (eJ P) (lN (fj P)) (lN (fH P)))) (nN (⟨.none, none, (.fields ⟨[(.int (1) 0), (.int (0) 0), (.ref 20), (.int (5) 0), (.int (0) 0), (.ref 27), (.int (7) 0), (.int (0) 0), (.ref 40), (.int (9) 0), (.int (0) 0), (.ref 52), (.int (11) 0), (.int (0) 0), (.ref 64)]⟩), ⟨[]⟩⟩) (nN (dR P) (nN (eZ P) (lN (fP P)) .nil) (lN (gW P))) (nN (ei P) (lN (eO P)) (lN (ir P))))) (nN (boot_o_6 P) (nN (boot_o_10 P) (nN (dU P) (nN (eu P) (lN (fM P)) .nil) (lN (tT []))) (nN (ez P) (lN (eI P)) (lN (gQ P)))) (nN (dK P) (nN (eM P) (nN (fE P) (lN (ip P)) .nil) (lN (tT []))) (nN (dW P) (lN (fg P)) (lN (tT []))))))), 71, lf0, ⟨[]⟩, ⟨0, 0, 0, 0⟩, 262, os⟩ : Params → SharedT) w.params
noncomputable def Bz : List Stmt := ((behindTheImports pw).drop 5).take 1
noncomputable def Bb (w : World) : Prop := (fun os => segRunT treeTable pw w m0 ann 1 214 (S3 w os) (piecesOf Bz env cE ⟨9, 0, 10, 8⟩ B)) = fun os => some (Flow.next, S4 w os, cE, ⟨11, 0, 12, 8⟩)
theorem pc3 (w : World) : Bb w := by
  unfold Bb
  rw [PySem.W.Fast.te10110043849684766642, PySem.W.Fast.te14364793385576792824]
  kernel_rfl
noncomputable def gM (P : Params) : Obj := tT [(.ref 31)]
noncomputable def hU (P : Params) : Obj := ⟨(.type "builtin_function_or_method"), none, (.fields ⟨[(.builtin "type.__prepare__"), (.type "type")]⟩), ⟨[]⟩⟩
noncomputable def iF (P : Params) : Obj := ⟨(.type "dict"), none, (.dict ⟨[en P "__module__" 269 (sV "ringpost.errors" 194), en P "__qualname__" 271 (sV "BadStep" 270), en P "__firstlineno__" 273 (.int (13) 272), en P "__static_attributes__" 274 (.ref 78)]⟩ 4), ⟨[]⟩⟩
noncomputable def iB (P : Params) : Obj := cO "BadStep" 264 "BadStep" 265 266 13 0 0 74 false 181 75 .none .none .none .none 267 13 268
noncomputable def hX (P : Params) : Obj := ⟨(.type "frame"), none, .plain, ⟨[(some (.ref 76)), (some (.ref 3)), (some (.ref 73)), none, (some (sV "ringpost.errors" 194)), none, (some (.ref 0))]⟩⟩
noncomputable def gT (P : Params) : Obj := ⟨(.type "dict"), none, (.dict ⟨[en P "__module__" 269 (sV "ringpost.errors" 194), en P "__firstlineno__" 273 (.int (13) 272), en P "__static_attributes__" 274 (.ref 78), en P "__doc__" 275 .none]⟩ 2), ⟨[]⟩⟩
noncomputable def iM (P : Params) : Obj := ⟨(.type "type"), none, (.cls { name := (sS "BadStep"), bases := [(.ref 31)], mro := [(.ref 80), (.ref 31), (.type "ValueError"), (.type "Exception"), (.type "BaseException"), (.type "object")], ns := 79, qualname := (sS "BadStep"), hasDict := true, slotNames := [], subclasses := [], abstract := false, collection := none, hasDel := false }), ⟨[(some (.ref 71)), none, (some (sV "BadStep" 262)), (some (sV "BadStep" 270)), (some (.builtin "ValueError.__new__")), (some (.bool true))]⟩⟩
noncomputable def jj (P : Params) : Obj := ⟨(.type "super"), none, (.fields ⟨[(.ref 80), (.ref 80), (.ref 80)]⟩), ⟨[]⟩⟩
noncomputable def jg (P : Params) : Obj := ⟨(.type "builtin_function_or_method"), none, (.fields ⟨[(.builtin "object.__init_subclass__"), (.ref 80)]⟩), ⟨[]⟩⟩
noncomputable def S5 (w : World) (os : OsState) : SharedT := (fun P => ⟨(nN (boot_o_0 P) (nN (boot_o_1 P) (nN (⟨(.type "dict"), none, (.dict ⟨[en P "__name__" 165 (sV "ringpost.errors" 194), en P "__doc__" 166 .none, en P "__package__" 167 .none, en P "__loader__" 168 (.builtin "__main__.__loader__#opaque"), en P "__spec__" 169 .none, en P "__annotations__" 170 (.ref 6), en P "__builtins__" 171 (.ref 4), en P "__file__" 173 (sV "/claim/cut.py" 172), en P "__cached__" 174 .none, en P "_wall" 193 (.ref 21), en P "PostError" 213 (.ref 31), en P "BadBounds" 229 (.ref 44), en P "BadRing" 245 (.ref 56), en P "BadTexts" 261 (.ref 68), en P "BadStep" 277 (.ref 80)]⟩ 15), ⟨[]⟩⟩) (nN (boot_o_7 P) (nN (dQ P) (nN (⟨(.type "type"), none, (.cls { name := (sS "PostError"), bases := [(.type "ValueError")], mro := [(.ref 31), (.type "ValueError"), (.type "Exception"), (.type "BaseException"), (.type "object")], ns := 30, qualname := (sS "PostError"), hasDict := true, slotNames := [], subclasses := [(.ref 44), (.ref 56), (.ref 68), (.ref 80)], abstract := false, collection := none, hasDel := false }), ⟨[(some (.ref 22)), none, (some (sV "PostError" 196)), (some (sV "PostError" 204)), (some (.builtin "ValueError.__new__")), (some (.bool true))]⟩⟩) (lN (zO)) .nil) (nN (fc P) (lN (gT P)) .nil)) (nN (eV P) (nN (fq P) (lN (gM P)) .nil) (lN (fN P)))) (nN (dG P) (nN (eE P) (nN (eQ P) (lN (fF P)) .nil) (lN (zO))) (nN (eH P) (nN (eR P) (lN (zO)) .nil) (lN (gS P))))) (nN (boot_o_5 P) (nN (boot_o_9 P) (nN (dT P) (nN (fh P) (lN (ie P)) .nil) (nN (gX P) (lN (jj P)) .nil)) (nN (eK P) (nN (fn P) (lN (iF P)) .nil) (lN (gU P)))) (nN (dI P) (nN (eN P) (nN (fI P) (lN (iJ P)) .nil) (lN (hN P))) (nN (dX P) (nN (eX P) (lN (hX P)) .nil) (lN (iD P)))))) (nN (boot_o_2 P) (nN (boot_o_4 P) (nN (boot_o_8 P) (nN (eA P) (nN (eD P) (lN (iQ P)) .nil) (nN (gP P) (lN (iM P)) .nil)) (nN (eJ P) (nN (fj P) (lN (hU P)) .nil) (lN (fH P)))) (nN (⟨.none, none, (.fields ⟨[(.int (1) 0), (.int (0) 0), (.ref 20), (.int (5) 0), (.int (0) 0), (.ref 27), (.int (7) 0), (.int (0) 0), (.ref 40), (.int (9) 0), (.int (0) 0), (.ref 52), (.int (11) 0), (.int (0) 0), (.ref 64), (.int (13) 0), (.int (0) 0), (.ref 76)]⟩), ⟨[]⟩⟩) (nN (dR P) (nN (eZ P) (lN (fP P)) .nil) (lN (gW P))) (nN (ei P) (nN (eO P) (lN (iB P)) .nil) (lN (ir P))))) (nN (boot_o_6 P) (nN (boot_o_10 P) (nN (dU P) (nN (eu P) (lN (fM P)) .nil) (nN (tT []) (lN (jg P)) .nil)) (nN (ez P) (nN (eI P) (lN (tT [])) .nil) (lN (gQ P)))) (nN (dK P) (nN (eM P) (nN (fE P) (lN (ip P)) .nil) (lN (tT []))) (nN (dW P) (nN (fg P) (lN (tT [])) .nil) (lN (tT []))))))), 83, lf0, ⟨[]⟩, ⟨0, 0, 0, 0⟩, 278, os⟩ : Params → SharedT) w.params
noncomputable def BN : List Stmt := ((behindTheImports pw).drop 6).take 1
noncomputable def Ca (w : World) : Prop := (fun os => segRunT treeTable pw w m0 ann 1 214 (S4 w os) (piecesOf BN env cE ⟨11, 0, 12, 8⟩ B)) = fun os => some (Flow.next, S5 w os, cE, ⟨13, 0, 14, 8⟩)
theorem pc4 (w : World) : Ca w := by
  unfold Ca
  rw [PySem.W.Fast.te10110043849684766642, PySem.W.Fast.te14364793385576792824]
  kernel_rfl
noncomputable def jf (P : Params) : Obj := tT [(.ref 31)]
noncomputable def jX (P : Params) : Obj := ⟨(.type "builtin_function_or_method"), none, (.fields ⟨[(.builtin "type.__prepare__"), (.type "type")]⟩), ⟨[]⟩⟩
noncomputable def lS (P : Params) : Obj := ⟨(.type "dict"), none, (.dict ⟨[en P "__module__" 285 (sV "ringpost.errors" 194), en P "__qualname__" 287 (sV "NotNow" 286), en P "__firstlineno__" 289 (.int (15) 288), en P "__static_attributes__" 290 (.ref 90)]⟩ 4), ⟨[]⟩⟩
noncomputable def ki (P : Params) : Obj := cO "NotNow" 280 "NotNow" 281 282 15 0 0 86 false 181 87 .none .none .none .none 283 15 284
noncomputable def jV (P : Params) : Obj := ⟨(.type "frame"), none, .plain, ⟨[(some (.ref 88)), (some (.ref 3)), (some (.ref 85)), none, (some (sV "ringpost.errors" 194)), none, (some (.ref 0))]⟩⟩
noncomputable def je (P : Params) : Obj := ⟨(.type "dict"), none, (.dict ⟨[en P "__module__" 285 (sV "ringpost.errors" 194), en P "__firstlineno__" 289 (.int (15) 288), en P "__static_attributes__" 290 (.ref 90), en P "__doc__" 291 .none]⟩ 2), ⟨[]⟩⟩
noncomputable def ji (P : Params) : Obj := ⟨(.type "type"), none, (.cls { name := (sS "NotNow"), bases := [(.ref 31)], mro := [(.ref 92), (.ref 31), (.type "ValueError"), (.type "Exception"), (.type "BaseException"), (.type "object")], ns := 91, qualname := (sS "NotNow"), hasDict := true, slotNames := [], subclasses := [], abstract := false, collection := none, hasDel := false }), ⟨[(some (.ref 83)), none, (some (sV "NotNow" 278)), (some (sV "NotNow" 286)), (some (.builtin "ValueError.__new__")), (some (.bool true))]⟩⟩
noncomputable def kh (P : Params) : Obj := ⟨(.type "super"), none, (.fields ⟨[(.ref 92), (.ref 92), (.ref 92)]⟩), ⟨[]⟩⟩
noncomputable def jT (P : Params) : Obj := ⟨(.type "builtin_function_or_method"), none, (.fields ⟨[(.builtin "object.__init_subclass__"), (.ref 92)]⟩), ⟨[]⟩⟩
noncomputable def S6 (w : World) (os : OsState) : SharedT := (fun P => ⟨(nN (boot_o_0 P) (nN (boot_o_1 P) (nN (⟨(.type "dict"), none, (.dict ⟨[en P "__name__" 165 (sV "ringpost.errors" 194), en P "__doc__" 166 .none, en P "__package__" 167 .none, en P "__loader__" 168 (.builtin "__main__.__loader__#opaque"), en P "__spec__" 169 .none, en P "__annotations__" 170 (.ref 6), en P "__builtins__" 171 (.ref 4), en P "__file__" 173 (sV "/claim/cut.py" 172), en P "__cached__" 174 .none, en P "_wall" 193 (.ref 21), en P "PostError" 213 (.ref 31), en P "BadBounds" 229 (.ref 44), en P "BadRing" 245 (.ref 56), en P "BadTexts" 261 (.ref 68), en P "BadStep" 277 (.ref 80), en P "NotNow" 293 (.ref 92)]⟩ 16), ⟨[]⟩⟩) (nN (boot_o_7 P) (nN (dQ P) (nN (⟨(.type "type"), none, (.cls { name := (sS "PostError"), bases := [(.type "ValueError")], mro := [(.ref 31), (.type "ValueError"), (.type "Exception"), (.type "BaseException"), (.type "object")], ns := 30, qualname := (sS "PostError"), hasDict := true, slotNames := [], subclasses := [(.ref 44), (.ref 56), (.ref 68), (.ref 80), (.ref 92)], abstract := false, collection := none, hasDel := false }), ⟨[(some (.ref 22)), none, (some (sV "PostError" 196)), (some (sV "PostError" 204)), (some (.builtin "ValueError.__new__")), (some (.bool true))]⟩⟩) (lN (zO)) .nil) (nN (fc P) (lN (gT P)) .nil)) (nN (eV P) (nN (fq P) (lN (gM P)) .nil) (nN (fN P) (lN (zO)) .nil))) (nN (dG P) (nN (eE P) (nN (eQ P) (lN (fF P)) .nil) (nN (zO) (lN (jf P)) .nil)) (nN (eH P) (nN (eR P) (lN (zO)) .nil) (nN (gS P) (lN (je P)) .nil)))) (nN (boot_o_5 P) (nN (boot_o_9 P) (nN (dT P) (nN (fh P) (lN (ie P)) .nil) (nN (gX P) (lN (jj P)) .nil)) (nN (eK P) (nN (fn P) (lN (iF P)) .nil) (nN (gU P) (lN (jV P)) .nil))) (nN (dI P) (nN (eN P) (nN (fI P) (lN (iJ P)) .nil) (nN (hN P) (lN (lS P)) .nil)) (nN (dX P) (nN (eX P) (lN (hX P)) .nil) (nN (iD P) (lN (kh P)) .nil))))) (nN (boot_o_2 P) (nN (boot_o_4 P) (nN (boot_o_8 P) (nN (eA P) (nN (eD P) (lN (iQ P)) .nil) (nN (gP P) (lN (iM P)) .nil)) (nN (eJ P) (nN (fj P) (lN (hU P)) .nil) (nN (fH P) (lN (ki P)) .nil))) (nN (⟨.none, none, (.fields ⟨[(.int (1) 0), (.int (0) 0), (.ref 20), (.int (5) 0), (.int (0) 0), (.ref 27), (.int (7) 0), (.int (0) 0), (.ref 40), (.int (9) 0), (.int (0) 0), (.ref 52), (.int (11) 0), (.int (0) 0), (.ref 64), (.int (13) 0), (.int (0) 0), (.ref 76), (.int (15) 0), (.int (0) 0), (.ref 88)]⟩), ⟨[]⟩⟩) (nN (dR P) (nN (eZ P) (lN (fP P)) .nil) (nN (gW P) (lN (jX P)) .nil)) (nN (ei P) (nN (eO P) (lN (iB P)) .nil) (nN (ir P) (lN (ji P)) .nil)))) (nN (boot_o_6 P) (nN (boot_o_10 P) (nN (dU P) (nN (eu P) (lN (fM P)) .nil) (nN (tT []) (lN (jg P)) .nil)) (nN (ez P) (nN (eI P) (lN (tT [])) .nil) (nN (gQ P) (lN (tT [])) .nil))) (nN (dK P) (nN (eM P) (nN (fE P) (lN (ip P)) .nil) (nN (tT []) (lN (tT [])) .nil)) (nN (dW P) (nN (fg P) (lN (tT [])) .nil) (nN (tT []) (lN (jT P)) .nil)))))), 95, lf0, ⟨[]⟩, ⟨0, 0, 0, 0⟩, 294, os⟩ : Params → SharedT) w.params
noncomputable def Ch : List Stmt := ((behindTheImports pw).drop 7).take 1
noncomputable def BW (w : World) : Prop := (fun os => segRunT treeTable pw w m0 ann 1 214 (S5 w os) (piecesOf Ch env cE ⟨13, 0, 14, 8⟩ B)) = fun os => some (Flow.next, S6 w os, cE, ⟨15, 0, 16, 8⟩)
theorem pc5 (w : World) : BW w := by
  unfold BW
  rw [PySem.W.Fast.te10110043849684766642, PySem.W.Fast.te14364793385576792824]
  kernel_rfl
noncomputable def jU (P : Params) : Obj := ⟨(.type "type"), none, (.cls { name := (sS "PostError"), bases := [(.type "ValueError")], mro := [(.ref 31), (.type "ValueError"), (.type "Exception"), (.type "BaseException"), (.type "object")], ns := 30, qualname := (sS "PostError"), hasDict := true, slotNames := [], subclasses := [(.ref 44), (.ref 56), (.ref 68), (.ref 80), (.ref 92), (.ref 104)], abstract := false, collection := none, hasDel := false }), ⟨[(some (.ref 22)), none, (some (sV "PostError" 196)), (some (sV "PostError" 204)), (some (.builtin "ValueError.__new__")), (some (.bool true))]⟩⟩
noncomputable def kq (P : Params) : Obj := tT [(.ref 31)]
noncomputable def lY (P : Params) : Obj := ⟨(.type "builtin_function_or_method"), none, (.fields ⟨[(.builtin "type.__prepare__"), (.type "type")]⟩), ⟨[]⟩⟩
noncomputable def lX (P : Params) : Obj := ⟨(.type "dict"), none, (.dict ⟨[en P "__module__" 301 (sV "ringpost.errors" 194), en P "__qualname__" 303 (sV "NoLetter" 302), en P "__firstlineno__" 305 (.int (17) 304), en P "__static_attributes__" 306 (.ref 102)]⟩ 4), ⟨[]⟩⟩
noncomputable def fT (P : Params) : Obj := cO "NoLetter" 296 "NoLetter" 297 298 17 0 0 98 false 181 99 .none .none .none .none 299 17 300
noncomputable def ic (P : Params) : Obj := ⟨(.type "frame"), none, .plain, ⟨[(some (.ref 100)), (some (.ref 3)), (some (.ref 97)), none, (some (sV "ringpost.errors" 194)), none, (some (.ref 0))]⟩⟩
noncomputable def fw (P : Params) : Obj := ⟨(.type "dict"), none, (.dict ⟨[en P "__module__" 301 (sV "ringpost.errors" 194), en P "__firstlineno__" 305 (.int (17) 304), en P "__static_attributes__" 306 (.ref 102), en P "__doc__" 307 .none]⟩ 2), ⟨[]⟩⟩
noncomputable def fC (P : Params) : Obj := ⟨(.type "type"), none, (.cls { name := (sS "NoLetter"), bases := [(.ref 31)], mro := [(.ref 104), (.ref 31), (.type "ValueError"), (.type "Exception"), (.type "BaseException"), (.type "object")], ns := 103, qualname := (sS "NoLetter"), hasDict := true, slotNames := [], subclasses := [], abstract := false, collection := none, hasDel := false }), ⟨[(some (.ref 95)), none, (some (sV "NoLetter" 294)), (some (sV "NoLetter" 302)), (some (.builtin "ValueError.__new__")), (some (.bool true))]⟩⟩
noncomputable def fR (P : Params) : Obj := ⟨(.type "super"), none, (.fields ⟨[(.ref 104), (.ref 104), (.ref 104)]⟩), ⟨[]⟩⟩
noncomputable def gq (P : Params) : Obj := ⟨(.type "builtin_function_or_method"), none, (.fields ⟨[(.builtin "object.__init_subclass__"), (.ref 104)]⟩), ⟨[]⟩⟩
noncomputable def fA (P : Params) : Obj := tT [(sV "thing" 325), (sV "low" 326), (sV "high" 327)]
noncomputable def gc (P : Params) : Obj := fO "is_among" "is_among" pw.main.body 15
noncomputable def gx (P : Params) : Obj := cO "is_among" 322 "is_among" 323 324 25 3 3 107 true 181 108 .none (.ref 109) (.ref 110) (.ref 111) 328 25 329
noncomputable def gJ (P : Params) : Obj := gO "is_among" "is_among" pw.main.body 15 (sV "ringpost.bounds" 310) 112
noncomputable def fX (P : Params) : Obj := tT [(sV "thing" 334)]
noncomputable def jw (P : Params) : Obj := fO "are_bounds" "are_bounds" pw.main.body 16
noncomputable def fW (P : Params) : Obj := cO "are_bounds" 331 "are_bounds" 332 333 27 1 3 114 true 181 115 .none (.ref 116) (.ref 117) (.ref 118) 335 27 336
noncomputable def gm (P : Params) : Obj := gO "are_bounds" "are_bounds" pw.main.body 16 (sV "ringpost.bounds" 310) 119
noncomputable def gE (P : Params) : Obj := tT [(sV "thing" 341)]
noncomputable def iN (P : Params) : Obj := fO "need_bounds" "need_bounds" pw.main.body 17
noncomputable def gf (P : Params) : Obj := cO "need_bounds" 338 "need_bounds" 339 340 33 1 3 121 true 181 122 .none (.ref 123) (.ref 124) (.ref 125) 342 33 343
noncomputable def gC (P : Params) : Obj := gO "need_bounds" "need_bounds" pw.main.body 17 (sV "ringpost.bounds" 310) 126
noncomputable def fy (P : Params) : Obj := tT [(sV "thing" 348)]
noncomputable def gL (P : Params) : Obj := fO "need_ring" "need_ring" pw.main.body 18
noncomputable def gG (P : Params) : Obj := cO "need_ring" 345 "need_ring" 346 347 36 1 3 128 true 181 129 .none (.ref 130) (.ref 131) (.ref 132) 349 36 350
noncomputable def fZ (P : Params) : Obj := gO "need_ring" "need_ring" pw.main.body 18 (sV "ringpost.bounds" 310) 133
noncomputable def t60 (P : Params) : BT := (nN (eN P) (nN (fI P) (nN (iJ P) (lN (gG P)) .nil) (lN (ic P))) (nN (hN P) (lN (lS P)) (lN (tT []))))
noncomputable def t70 (P : Params) : BT := (nN (eM P) (nN (fE P) (nN (ip P) (lN (fZ P)) .nil) (lN (tT []))) (nN (tT []) (lN (tT [])) (lN (jw P))))
noncomputable def S7 (w : World) (os : OsState) : SharedT := (fun P => ⟨(nN (boot_o_0 P) (nN (boot_o_1 P) (nN (⟨(.type "dict"), none, (.dict ⟨[en P "__name__" 165 (sV "ringpost.bounds" 310), en P "__doc__" 166 .none, en P "__package__" 167 .none, en P "__loader__" 168 (.builtin "__main__.__loader__#opaque"), en P "__spec__" 169 .none, en P "__annotations__" 170 (.ref 6), en P "__builtins__" 171 (.ref 4), en P "__file__" 173 (sV "/claim/cut.py" 172), en P "__cached__" 174 .none, en P "_wall" 193 (.ref 21), en P "PostError" 213 (.ref 31), en P "BadBounds" 229 (.ref 44), en P "BadRing" 245 (.ref 56), en P "BadTexts" 261 (.ref 68), en P "BadStep" 277 (.ref 80), en P "NotNow" 293 (.ref 92), en P "NoLetter" 309 (.ref 104), en P "MOST_WINDOW" 313 (.int (20) 312), en P "MOST_BACK" 315 (.int (20) 314), en P "MOST_RING" 317 (.int (200) 316), en P "MOST_TEXTS" 319 (.int (400) 318), en P "MOST_SIGNS" 321 (.int (40) 320), en P "is_among" 330 (.ref 113), en P "are_bounds" 337 (.ref 120), en P "need_bounds" 344 (.ref 127), en P "need_ring" 351 (.ref 134)]⟩ 26), ⟨[]⟩⟩) (nN (boot_o_7 P) (nN (dQ P) (nN (jU P) (nN (zO) (lN (gC P)) .nil) (lN (kq P))) (nN (fc P) (lN (gT P)) (lN (gc P)))) (nN (eV P) (nN (fq P) (lN (gM P)) (lN (fw P))) (nN (fN P) (lN (zO)) (lN (fW P))))) (nN (dG P) (nN (eE P) (nN (eQ P) (nN (fF P) (lN (tT [])) .nil) (lN (zO))) (nN (zO) (lN (jf P)) (lN (zO)))) (nN (eH P) (nN (eR P) (lN (zO)) (lN (tT []))) (nN (gS P) (lN (je P)) (lN (gE P)))))) (nN (boot_o_5 P) (nN (boot_o_9 P) (nN (dT P) (nN (fh P) (nN (ie P) (lN (zO)) .nil) (lN (lX P))) (nN (gX P) (lN (jj P)) (lN (gJ P)))) (nN (eK P) (nN (fn P) (lN (iF P)) (lN (fR P))) (nN (gU P) (lN (jV P)) (lN (tT []))))) (nN (dI P) (t60 P) (nN (dX P) (nN (eX P) (lN (hX P)) (lN (fA P))) (nN (iD P) (lN (kh P)) (lN (iN P))))))) (nN (boot_o_2 P) (nN (boot_o_4 P) (nN (boot_o_8 P) (nN (eA P) (nN (eD P) (nN (iQ P) (lN (tT [])) .nil) (lN (lY P))) (nN (gP P) (lN (iM P)) (lN (gx P)))) (nN (eJ P) (nN (fj P) (lN (hU P)) (lN (fC P))) (nN (fH P) (lN (ki P)) (lN (gm P))))) (nN (⟨.none, none, (.fields ⟨[(.int (1) 0), (.int (0) 0), (.ref 20), (.int (5) 0), (.int (0) 0), (.ref 27), (.int (7) 0), (.int (0) 0), (.ref 40), (.int (9) 0), (.int (0) 0), (.ref 52), (.int (11) 0), (.int (0) 0), (.ref 64), (.int (13) 0), (.int (0) 0), (.ref 76), (.int (15) 0), (.int (0) 0), (.ref 88), (.int (17) 0), (.int (0) 0), (.ref 100), (.int (25) 0), (.int (0) 0), (.ref 112), (.int (27) 0), (.int (0) 0), (.ref 119), (.int (33) 0), (.int (0) 0), (.ref 126), (.int (36) 0), (.int (0) 0), (.ref 133)]⟩), ⟨[]⟩⟩) (nN (dR P) (nN (eZ P) (nN (fP P) (lN (gL P)) .nil) (lN (fT P))) (nN (gW P) (lN (jX P)) (lN (fX P)))) (nN (ei P) (nN (eO P) (lN (iB P)) (lN (zO))) (nN (ir P) (lN (ji P)) (lN (tT [])))))) (nN (boot_o_6 P) (nN (boot_o_10 P) (nN (dU P) (nN (eu P) (nN (fM P) (lN (fy P)) .nil) (lN (tT []))) (nN (tT []) (lN (jg P)) (lN (tT [])))) (nN (ez P) (nN (eI P) (lN (tT [])) (lN (gq P))) (nN (gQ P) (lN (tT [])) (lN (zO))))) (nN (dK P) (t70 P) (nN (dW P) (nN (fg P) (lN (tT [])) (lN (tT []))) (nN (tT []) (lN (jT P)) (lN (gf P)))))))), 135, lf0, ⟨[]⟩, ⟨0, 0, 0, 0⟩, 352, os⟩ : Params → SharedT) w.params
noncomputable def Ce : List Stmt := ((behindTheImports pw).drop 8).take 11
noncomputable def Cu (w : World) : Prop := (fun os => segRunT treeTable pw w m0 ann 1 386 (S6 w os) (piecesOf Ce env cE ⟨15, 0, 16, 8⟩ B)) = fun os => some (Flow.next, S7 w os, cE, ⟨36, 0, 38, 63⟩)
theorem pc6 (w : World) : Cu w := by
  unfold Cu
  rw [PySem.W.Fast.te10110043849684766642, PySem.W.Fast.te14364793385576792824]
  kernel_rfl
noncomputable def gK (P : Params) : Obj := tT [(sV "thing" 355), (sV "text" 356)]
noncomputable def iA (P : Params) : Obj := fO "need_texts" "need_texts" pw.main.body 19
noncomputable def gy (P : Params) : Obj := cO "need_texts" 352 "need_texts" 353 354 39 1 3 135 true 181 136 .none (.ref 137) (.ref 138) (.ref 139) 357 39 358
noncomputable def gI (P : Params) : Obj := gO "need_texts" "need_texts" pw.main.body 19 (sV "ringpost.bounds" 310) 140
noncomputable def iu (P : Params) : Obj := tT [(sV "bounds" 363)]
noncomputable def jn (P : Params) : Obj := fO "least_ring" "least_ring" pw.main.body 20
noncomputable def iC (P : Params) : Obj := cO "least_ring" 360 "least_ring" 361 362 45 1 3 142 true 181 143 .none (.ref 144) (.ref 145) (.ref 146) 364 45 365
noncomputable def iR (P : Params) : Obj := gO "least_ring" "least_ring" pw.main.body 20 (sV "ringpost.bounds" 310) 147
noncomputable def S8 (w : World) (os : OsState) : SharedT := (fun P => ⟨(nN (boot_o_0 P) (nN (boot_o_1 P) (nN (⟨(.type "dict"), none, (.dict ⟨[en P "__name__" 165 (sV "ringpost.posts" 367), en P "__doc__" 166 .none, en P "__package__" 167 .none, en P "__loader__" 168 (.builtin "__main__.__loader__#opaque"), en P "__spec__" 169 .none, en P "__annotations__" 170 (.ref 6), en P "__builtins__" 171 (.ref 4), en P "__file__" 173 (sV "/claim/cut.py" 172), en P "__cached__" 174 .none, en P "_wall" 193 (.ref 21), en P "PostError" 213 (.ref 31), en P "BadBounds" 229 (.ref 44), en P "BadRing" 245 (.ref 56), en P "BadTexts" 261 (.ref 68), en P "BadStep" 277 (.ref 80), en P "NotNow" 293 (.ref 92), en P "NoLetter" 309 (.ref 104), en P "MOST_WINDOW" 313 (.int (20) 312), en P "MOST_BACK" 315 (.int (20) 314), en P "MOST_RING" 317 (.int (200) 316), en P "MOST_TEXTS" 319 (.int (400) 318), en P "MOST_SIGNS" 321 (.int (40) 320), en P "is_among" 330 (.ref 113), en P "are_bounds" 337 (.ref 120), en P "need_bounds" 344 (.ref 127), en P "need_ring" 351 (.ref 134), en P "need_texts" 359 (.ref 141), en P "least_ring" 366 (.ref 148)]⟩ 28), ⟨[]⟩⟩) (nN (boot_o_7 P) (nN (dQ P) (nN (jU P) (nN (zO) (lN (gC P)) .nil) (lN (kq P))) (nN (fc P) (nN (gT P) (lN (zO)) .nil) (lN (gc P)))) (nN (eV P) (nN (fq P) (nN (gM P) (lN (tT [])) .nil) (lN (fw P))) (nN (fN P) (lN (zO)) (lN (fW P))))) (nN (dG P) (nN (eE P) (nN (eQ P) (nN (fF P) (lN (tT [])) .nil) (lN (zO))) (nN (zO) (nN (jf P) (lN (iC P)) .nil) (lN (zO)))) (nN (eH P) (nN (eR P) (nN (zO) (lN (iA P)) .nil) (lN (tT []))) (nN (gS P) (lN (je P)) (lN (gE P)))))) (nN (boot_o_5 P) (nN (boot_o_9 P) (nN (dT P) (nN (fh P) (nN (ie P) (lN (zO)) .nil) (lN (lX P))) (nN (gX P) (nN (jj P) (lN (tT [])) .nil) (lN (gJ P)))) (nN (eK P) (nN (fn P) (nN (iF P) (lN (gK P)) .nil) (lN (fR P))) (nN (gU P) (lN (jV P)) (lN (tT []))))) (nN (dI P) (t60 P) (nN (dX P) (nN (eX P) (nN (hX P) (lN (gI P)) .nil) (lN (fA P))) (nN (iD P) (lN (kh P)) (lN (iN P))))))) (nN (boot_o_2 P) (nN (boot_o_4 P) (nN (boot_o_8 P) (nN (eA P) (nN (eD P) (nN (iQ P) (lN (tT [])) .nil) (lN (lY P))) (nN (gP P) (nN (iM P) (lN (iu P)) .nil) (lN (gx P)))) (nN (eJ P) (nN (fj P) (nN (hU P) (lN (zO)) .nil) (lN (fC P))) (nN (fH P) (lN (ki P)) (lN (gm P))))) (nN (⟨.none, none, (.fields ⟨[(.int (1) 0), (.int (0) 0), (.ref 20), (.int (5) 0), (.int (0) 0), (.ref 27), (.int (7) 0), (.int (0) 0), (.ref 40), (.int (9) 0), (.int (0) 0), (.ref 52), (.int (11) 0), (.int (0) 0), (.ref 64), (.int (13) 0), (.int (0) 0), (.ref 76), (.int (15) 0), (.int (0) 0), (.ref 88), (.int (17) 0), (.int (0) 0), (.ref 100), (.int (25) 0), (.int (0) 0), (.ref 112), (.int (27) 0), (.int (0) 0), (.ref 119), (.int (33) 0), (.int (0) 0), (.ref 126), (.int (36) 0), (.int (0) 0), (.ref 133), (.int (39) 0), (.int (0) 0), (.ref 140), (.int (45) 0), (.int (0) 0), (.ref 147)]⟩), ⟨[]⟩⟩) (nN (dR P) (nN (eZ P) (nN (fP P) (lN (gL P)) .nil) (lN (fT P))) (nN (gW P) (nN (jX P) (lN (iR P)) .nil) (lN (fX P)))) (nN (ei P) (nN (eO P) (nN (iB P) (lN (gy P)) .nil) (lN (zO))) (nN (ir P) (lN (ji P)) (lN (tT [])))))) (nN (boot_o_6 P) (nN (boot_o_10 P) (nN (dU P) (nN (eu P) (nN (fM P) (lN (fy P)) .nil) (lN (tT []))) (nN (tT []) (nN (jg P) (lN (jn P)) .nil) (lN (tT [])))) (nN (ez P) (nN (eI P) (nN (tT []) (lN (tT [])) .nil) (lN (gq P))) (nN (gQ P) (lN (tT [])) (lN (zO))))) (nN (dK P) (t70 P) (nN (dW P) (nN (fg P) (nN (tT []) (lN (tT [])) .nil) (lN (tT []))) (nN (tT []) (lN (jT P)) (lN (gf P)))))))), 149, lf0, ⟨[]⟩, ⟨0, 0, 0, 0⟩, 369, os⟩ : Params → SharedT) w.params
noncomputable def Cd : List Stmt := ((behindTheImports pw).drop 19).take 3
noncomputable def Bj (w : World) : Prop := (fun os => segRunT treeTable pw w m0 ann 1 69 (S7 w os) (piecesOf Cd env cE ⟨36, 0, 38, 63⟩ B)) = fun os => some (Flow.next, S8 w os, cE, ⟨48, 0, 48, 8⟩)
theorem pc7 (w : World) : Bj w := by
  unfold Bj
  rw [PySem.W.Fast.te10110043849684766642, PySem.W.Fast.te14364793385576792824]
  kernel_rfl
noncomputable def lm (P : Params) : Obj := ⟨(.type "builtin_function_or_method"), none, (.fields ⟨[(.builtin "type.__prepare__"), (.type "type")]⟩), ⟨[]⟩⟩
noncomputable def lK (P : Params) : Obj := ⟨(.type "dict"), none, (.dict ⟨[en P "__module__" 376 (sV "ringpost.posts" 367), en P "__qualname__" 378 (sV "Post" 377), en P "__firstlineno__" 380 (.int (49) 379), en P "__init__" 388 (.ref 162), en P "first" 395 (.ref 169), en P "posted" 403 (.ref 176), en P "there" 410 (.ref 183), en P "taken" 418 (.ref 190), en P "__static_attributes__" 421 (.ref 191)]⟩ 9), ⟨[]⟩⟩
noncomputable def lQ (P : Params) : Obj := ⟨.none, none, (.fields ⟨[(.int (51) 0), (.int (4) 0), (.ref 161), (.int (55) 0), (.int (4) 0), (.ref 168), (.int (58) 0), (.int (4) 0), (.ref 175), (.int (62) 0), (.int (4) 0), (.ref 182), (.int (65) 0), (.int (4) 0), (.ref 189)]⟩), ⟨[]⟩⟩
noncomputable def lq (P : Params) : Obj := cO "Post" 371 "Post" 372 373 49 0 0 152 false 181 153 .none .none .none .none 374 49 375
noncomputable def kP (P : Params) : Obj := ⟨(.type "frame"), none, .plain, ⟨[(some (.ref 154)), (some (.ref 3)), (some (.ref 151)), none, (some (sV "ringpost.posts" 367)), none, (some (.ref 0))]⟩⟩
noncomputable def ju (P : Params) : Obj := tT [(sV "self" 384), (sV "bound" 385)]
noncomputable def kC (P : Params) : Obj := fO "__init__" "Post.__init__" (bc pw.main.body 22) 0
noncomputable def jz (P : Params) : Obj := cO "__init__" 381 "Post.__init__" 382 383 51 2 3 156 true 181 157 .none (.ref 158) (.ref 159) (.ref 160) 386 51 387
noncomputable def iP (P : Params) : Obj := gO "__init__" "Post.__init__" (bc pw.main.body 22) 0 (sV "ringpost.posts" 367) 161
noncomputable def io (P : Params) : Obj := tT [(sV "self" 392)]
noncomputable def jO (P : Params) : Obj := fO "first" "Post.first" (bc pw.main.body 22) 1
noncomputable def hZ (P : Params) : Obj := cO "first" 389 "Post.first" 390 391 55 1 3 163 true 181 164 .none (.ref 165) (.ref 166) (.ref 167) 393 55 394
noncomputable def ik (P : Params) : Obj := gO "first" "Post.first" (bc pw.main.body 22) 1 (sV "ringpost.posts" 367) 168
noncomputable def iz (P : Params) : Obj := tT [(sV "self" 399), (sV "thing" 400)]
noncomputable def jr (P : Params) : Obj := fO "posted" "Post.posted" (bc pw.main.body 22) 2
noncomputable def hJ (P : Params) : Obj := cO "posted" 396 "Post.posted" 397 398 58 2 3 170 true 181 171 .none (.ref 172) (.ref 173) (.ref 174) 401 58 402
noncomputable def jH (P : Params) : Obj := gO "posted" "Post.posted" (bc pw.main.body 22) 2 (sV "ringpost.posts" 367) 175
noncomputable def jI (P : Params) : Obj := tT [(sV "self" 407)]
noncomputable def lz (P : Params) : Obj := fO "there" "Post.there" (bc pw.main.body 22) 3
noncomputable def jA (P : Params) : Obj := cO "there" 404 "Post.there" 405 406 62 1 3 177 true 181 178 .none (.ref 179) (.ref 180) (.ref 181) 408 62 409
noncomputable def jt (P : Params) : Obj := gO "there" "Post.there" (bc pw.main.body 22) 3 (sV "ringpost.posts" 367) 182
noncomputable def jQ (P : Params) : Obj := tT [(sV "self" 414), (sV "number" 415)]
noncomputable def kI (P : Params) : Obj := fO "taken" "Post.taken" (bc pw.main.body 22) 4
noncomputable def jp (P : Params) : Obj := cO "taken" 411 "Post.taken" 412 413 65 2 3 184 true 181 185 .none (.ref 186) (.ref 187) (.ref 188) 416 65 417
noncomputable def jL (P : Params) : Obj := gO "taken" "Post.taken" (bc pw.main.body 22) 4 (sV "ringpost.posts" 367) 189
noncomputable def jk (P : Params) : Obj := tT [(sV "bound" 419), (sV "things" 420)]
noncomputable def jN (P : Params) : Obj := ⟨(.type "dict"), none, (.dict ⟨[en P "__module__" 376 (sV "ringpost.posts" 367), en P "__firstlineno__" 380 (.int (49) 379), en P "__init__" 388 (.ref 162), en P "first" 395 (.ref 169), en P "posted" 403 (.ref 176), en P "there" 410 (.ref 183), en P "taken" 418 (.ref 190), en P "__static_attributes__" 421 (.ref 191), en P "__dict__" 423 (.ref 194), en P "__weakref__" 425 (.ref 195), en P "__doc__" 426 .none]⟩ 4), ⟨[]⟩⟩
noncomputable def jF (P : Params) : Obj := ⟨(.type "type"), none, (.cls { name := (sS "Post"), bases := [(.type "object")], mro := [(.ref 193), (.type "object")], ns := 192, qualname := (sS "Post"), hasDict := true, slotNames := [], subclasses := [], abstract := false, collection := none, hasDel := false }), ⟨[none, none, (some (sV "Post" 369)), (some (sV "Post" 377)), (some (.builtin "object.__new__")), (some (.bool true))]⟩⟩
noncomputable def ig (P : Params) : Obj := ⟨(.type "getset_descriptor"), none, (.fields ⟨[(sV "__dict__" 422), (.ref 193), (.builtin "function.__dict__"), (.builtin "function.__dict__#set")]⟩), ⟨[]⟩⟩
noncomputable def iI (P : Params) : Obj := ⟨(.type "getset_descriptor"), none, (.fields ⟨[(sV "__weakref__" 424), (.ref 193), (.builtin "ExceptionGroup.__weakref__"), .none]⟩), ⟨[]⟩⟩
noncomputable def jP (P : Params) : Obj := ⟨(.type "super"), none, (.fields ⟨[(.ref 193), (.ref 193), (.ref 193)]⟩), ⟨[]⟩⟩
noncomputable def jv (P : Params) : Obj := ⟨(.type "builtin_function_or_method"), none, (.fields ⟨[(.builtin "object.__init_subclass__"), (.ref 193)]⟩), ⟨[]⟩⟩
noncomputable def S9 (w : World) (os : OsState) : SharedT := (fun P => ⟨(nN (boot_o_0 P) (nN (boot_o_1 P) (nN (⟨(.type "dict"), none, (.dict ⟨[en P "__name__" 165 (sV "ringpost.sides" 429), en P "__doc__" 166 .none, en P "__package__" 167 .none, en P "__loader__" 168 (.builtin "__main__.__loader__#opaque"), en P "__spec__" 169 .none, en P "__annotations__" 170 (.ref 6), en P "__builtins__" 171 (.ref 4), en P "__file__" 173 (sV "/claim/cut.py" 172), en P "__cached__" 174 .none, en P "_wall" 193 (.ref 21), en P "PostError" 213 (.ref 31), en P "BadBounds" 229 (.ref 44), en P "BadRing" 245 (.ref 56), en P "BadTexts" 261 (.ref 68), en P "BadStep" 277 (.ref 80), en P "NotNow" 293 (.ref 92), en P "NoLetter" 309 (.ref 104), en P "MOST_WINDOW" 313 (.int (20) 312), en P "MOST_BACK" 315 (.int (20) 314), en P "MOST_RING" 317 (.int (200) 316), en P "MOST_TEXTS" 319 (.int (400) 318), en P "MOST_SIGNS" 321 (.int (40) 320), en P "is_among" 330 (.ref 113), en P "are_bounds" 337 (.ref 120), en P "need_bounds" 344 (.ref 127), en P "need_ring" 351 (.ref 134), en P "need_texts" 359 (.ref 141), en P "least_ring" 366 (.ref 148), en P "Post" 428 (.ref 193)]⟩ 29), ⟨[]⟩⟩) (nN (boot_o_7 P) (nN (dQ P) (nN (jU P) (nN (zO) (lN (gC P)) (lN (jk P))) (nN (kq P) (lN (tT [])) .nil)) (nN (fc P) (nN (gT P) (lN (zO)) .nil) (nN (gc P) (lN (hJ P)) .nil))) (nN (eV P) (nN (fq P) (nN (gM P) (lN (tT [])) .nil) (nN (fw P) (lN (jO P)) .nil)) (nN (fN P) (nN (zO) (lN (lK P)) .nil) (nN (fW P) (lN (jt P)) .nil)))) (nN (dG P) (nN (eE P) (nN (eQ P) (nN (fF P) (lN (tT [])) (lN (iI P))) (nN (zO) (lN (tT [])) .nil)) (nN (zO) (nN (jf P) (lN (iC P)) .nil) (nN (zO) (lN (jI P)) .nil))) (nN (eH P) (nN (eR P) (nN (zO) (lN (iA P)) .nil) (nN (tT []) (lN (zO)) .nil)) (nN (gS P) (nN (je P) (lN (kP P)) .nil) (nN (gE P) (lN (tT [])) .nil))))) (nN (boot_o_5 P) (nN (boot_o_9 P) (nN (dT P) (nN (fh P) (nN (ie P) (lN (zO)) (lN (jF P))) (nN (lX P) (lN (jz P)) .nil)) (nN (gX P) (nN (jj P) (lN (tT [])) .nil) (nN (gJ P) (lN (tT [])) .nil))) (nN (eK P) (nN (fn P) (nN (iF P) (lN (gK P)) .nil) (nN (fR P) (lN (ik P)) .nil)) (nN (gU P) (nN (jV P) (lN (lQ P)) .nil) (nN (tT []) (lN (zO)) .nil)))) (nN (dI P) (nN (eN P) (nN (fI P) (nN (iJ P) (lN (gG P)) (lN (jv P))) (nN (ic P) (lN (io P)) .nil)) (nN (hN P) (nN (lS P) (lN (tT [])) .nil) (nN (tT []) (lN (lz P)) .nil))) (nN (dX P) (nN (eX P) (nN (hX P) (lN (gI P)) .nil) (nN (fA P) (lN (tT [])) .nil)) (nN (iD P) (nN (kh P) (lN (zO)) .nil) (nN (iN P) (lN (jp P)) .nil)))))) (nN (boot_o_2 P) (nN (boot_o_4 P) (nN (boot_o_8 P) (nN (eA P) (nN (eD P) (nN (iQ P) (lN (tT [])) (lN (jN P))) (nN (lY P) (lN (kC P)) .nil)) (nN (gP P) (nN (iM P) (lN (iu P)) .nil) (nN (gx P) (lN (jH P)) .nil))) (nN (eJ P) (nN (fj P) (nN (hU P) (lN (zO)) .nil) (nN (fC P) (lN (hZ P)) .nil)) (nN (fH P) (nN (ki P) (lN (tT [])) .nil) (nN (gm P) (lN (tT [])) .nil)))) (nN (⟨.none, none, (.fields ⟨[(.int (1) 0), (.int (0) 0), (.ref 20), (.int (5) 0), (.int (0) 0), (.ref 27), (.int (7) 0), (.int (0) 0), (.ref 40), (.int (9) 0), (.int (0) 0), (.ref 52), (.int (11) 0), (.int (0) 0), (.ref 64), (.int (13) 0), (.int (0) 0), (.ref 76), (.int (15) 0), (.int (0) 0), (.ref 88), (.int (17) 0), (.int (0) 0), (.ref 100), (.int (25) 0), (.int (0) 0), (.ref 112), (.int (27) 0), (.int (0) 0), (.ref 119), (.int (33) 0), (.int (0) 0), (.ref 126), (.int (36) 0), (.int (0) 0), (.ref 133), (.int (39) 0), (.int (0) 0), (.ref 140), (.int (45) 0), (.int (0) 0), (.ref 147), (.int (49) 0), (.int (0) 0), (.ref 154)]⟩), ⟨[]⟩⟩) (nN (dR P) (nN (eZ P) (nN (fP P) (lN (gL P)) (lN (jP P))) (nN (fT P) (lN (zO)) .nil)) (nN (gW P) (nN (jX P) (lN (iR P)) .nil) (nN (fX P) (lN (tT [])) .nil))) (nN (ei P) (nN (eO P) (nN (iB P) (lN (gy P)) .nil) (nN (zO) (lN (iz P)) .nil)) (nN (ir P) (nN (ji P) (lN (tT [])) .nil) (nN (tT []) (lN (kI P)) .nil))))) (nN (boot_o_6 P) (nN (boot_o_10 P) (nN (dU P) (nN (eu P) (nN (fM P) (lN (fy P)) (lN (ig P))) (nN (tT []) (lN (iP P)) .nil)) (nN (tT []) (nN (jg P) (lN (jn P)) .nil) (nN (tT []) (lN (zO)) .nil))) (nN (ez P) (nN (eI P) (nN (tT []) (lN (tT [])) .nil) (nN (gq P) (lN (tT [])) .nil)) (nN (gQ P) (nN (tT []) (lN (lq P)) .nil) (nN (zO) (lN (jQ P)) .nil)))) (nN (dK P) (nN (eM P) (nN (fE P) (nN (ip P) (lN (fZ P)) .nil) (nN (tT []) (lN (tT [])) .nil)) (nN (tT []) (nN (tT []) (lN (lm P)) .nil) (nN (jw P) (lN (jA P)) .nil))) (nN (dW P) (nN (fg P) (nN (tT []) (lN (tT [])) .nil) (nN (tT []) (lN (jr P)) .nil)) (nN (tT []) (nN (jT P) (lN (ju P)) .nil) (nN (gf P) (lN (jL P)) .nil))))))), 198, lf0, ⟨[]⟩, ⟨0, 0, 0, 0⟩, 431, os⟩ : Params → SharedT) w.params
noncomputable def By : List Stmt := ((behindTheImports pw).drop 22).take 2
noncomputable def Be (w : World) : Prop := (fun os => segRunT treeTable pw w m0 ann 1 359 (S8 w os) (piecesOf By env cE ⟨48, 0, 48, 8⟩ B)) = fun os => some (Flow.next, S9 w os, cE, ⟨69, 0, 69, 8⟩)
theorem pc8 (w : World) : Be w := by
  unfold Be
  rw [PySem.W.Fast.te10110043849684766642, PySem.W.Fast.te14364793385576792824]
  kernel_rfl
noncomputable def lI (P : Params) : Obj := ⟨(.type "builtin_function_or_method"), none, (.fields ⟨[(.builtin "type.__prepare__"), (.type "type")]⟩), ⟨[]⟩⟩
noncomputable def lP (P : Params) : Obj := ⟨(.type "dict"), none, (.dict ⟨[en P "__module__" 438 (sV "ringpost.sides" 429), en P "__qualname__" 440 (sV "Sender" 439), en P "__firstlineno__" 442 (.int (70) 441), en P "__init__" 452 (.ref 211), en P "span" 459 (.ref 218), en P "sent" 468 (.ref 225), en P "heard" 477 (.ref 232), en P "__static_attributes__" 483 (.ref 233)]⟩ 8), ⟨[]⟩⟩
noncomputable def lH (P : Params) : Obj := ⟨.none, none, (.fields ⟨[(.int (72) 0), (.int (4) 0), (.ref 210), (.int (79) 0), (.int (4) 0), (.ref 217), (.int (82) 0), (.int (4) 0), (.ref 224), (.int (90) 0), (.int (4) 0), (.ref 231)]⟩), ⟨[]⟩⟩
noncomputable def kO (P : Params) : Obj := cO "Sender" 433 "Sender" 434 435 70 0 0 201 false 181 202 .none .none .none .none 436 70 437
noncomputable def kT (P : Params) : Obj := ⟨(.type "frame"), none, .plain, ⟨[(some (.ref 203)), (some (.ref 3)), (some (.ref 200)), none, (some (sV "ringpost.sides" 429)), none, (some (.ref 0))]⟩⟩
noncomputable def jl (P : Params) : Obj := tT [(sV "self" 446), (sV "window" 447), (sV "ring" 448), (sV "many" 449)]
noncomputable def mT (P : Params) : Obj := fO "__init__" "Sender.__init__" (bc pw.main.body 24) 0
noncomputable def lO (P : Params) : Obj := cO "__init__" 443 "Sender.__init__" 444 445 72 4 3 205 true 181 206 .none (.ref 207) (.ref 208) (.ref 209) 450 72 451
noncomputable def lu (P : Params) : Obj := gO "__init__" "Sender.__init__" (bc pw.main.body 24) 0 (sV "ringpost.sides" 429) 210
noncomputable def lh (P : Params) : Obj := tT [(sV "self" 456)]
noncomputable def nt (P : Params) : Obj := fO "span" "Sender.span" (bc pw.main.body 24) 1
noncomputable def kR (P : Params) : Obj := cO "span" 453 "Sender.span" 454 455 79 1 3 212 true 181 213 .none (.ref 214) (.ref 215) (.ref 216) 457 79 458
noncomputable def kY (P : Params) : Obj := gO "span" "Sender.span" (bc pw.main.body 24) 1 (sV "ringpost.sides" 429) 217
noncomputable def lM (P : Params) : Obj := tT [(sV "self" 463), (sV "k" 464), (sV "last" 465)]
noncomputable def mX (P : Params) : Obj := fO "sent" "Sender.sent" (bc pw.main.body 24) 2
noncomputable def kM (P : Params) : Obj := cO "sent" 460 "Sender.sent" 461 462 82 2 3 219 true 181 220 .none (.ref 221) (.ref 222) (.ref 223) 466 82 467
noncomputable def kS (P : Params) : Obj := gO "sent" "Sender.sent" (bc pw.main.body 24) 2 (sV "ringpost.sides" 429) 224
noncomputable def js (P : Params) : Obj := tT [(sV "self" 472), (sV "number" 473), (sV "step" 474)]
noncomputable def kK (P : Params) : Obj := fO "heard" "Sender.heard" (bc pw.main.body 24) 3
noncomputable def jK (P : Params) : Obj := cO "heard" 469 "Sender.heard" 470 471 90 2 3 226 true 181 227 .none (.ref 228) (.ref 229) (.ref 230) 475 90 476
noncomputable def jC (P : Params) : Obj := gO "heard" "Sender.heard" (bc pw.main.body 24) 3 (sV "ringpost.sides" 429) 231
noncomputable def jq (P : Params) : Obj := tT [(sV "base" 478), (sV "many" 479), (sV "ring" 480), (sV "top" 481), (sV "window" 482)]
noncomputable def jm (P : Params) : Obj := ⟨(.type "dict"), none, (.dict ⟨[en P "__module__" 438 (sV "ringpost.sides" 429), en P "__firstlineno__" 442 (.int (70) 441), en P "__init__" 452 (.ref 211), en P "span" 459 (.ref 218), en P "sent" 468 (.ref 225), en P "heard" 477 (.ref 232), en P "__static_attributes__" 483 (.ref 233), en P "__dict__" 485 (.ref 236), en P "__weakref__" 487 (.ref 237), en P "__doc__" 488 .none]⟩ 4), ⟨[]⟩⟩
noncomputable def jE (P : Params) : Obj := ⟨(.type "type"), none, (.cls { name := (sS "Sender"), bases := [(.type "object")], mro := [(.ref 235), (.type "object")], ns := 234, qualname := (sS "Sender"), hasDict := true, slotNames := [], subclasses := [], abstract := false, collection := none, hasDel := false }), ⟨[none, none, (some (sV "Sender" 431)), (some (sV "Sender" 439)), (some (.builtin "object.__new__")), (some (.bool true))]⟩⟩
noncomputable def jy (P : Params) : Obj := ⟨(.type "getset_descriptor"), none, (.fields ⟨[(sV "__dict__" 484), (.ref 235), (.builtin "function.__dict__"), (.builtin "function.__dict__#set")]⟩), ⟨[]⟩⟩
noncomputable def jG (P : Params) : Obj := ⟨(.type "getset_descriptor"), none, (.fields ⟨[(sV "__weakref__" 486), (.ref 235), (.builtin "ExceptionGroup.__weakref__"), .none]⟩), ⟨[]⟩⟩
noncomputable def lC (P : Params) : Obj := ⟨(.type "super"), none, (.fields ⟨[(.ref 235), (.ref 235), (.ref 235)]⟩), ⟨[]⟩⟩
noncomputable def kJ (P : Params) : Obj := ⟨(.type "builtin_function_or_method"), none, (.fields ⟨[(.builtin "object.__init_subclass__"), (.ref 235)]⟩), ⟨[]⟩⟩
noncomputable def S10 (w : World) (os : OsState) : SharedT := (fun P => ⟨(nN (boot_o_0 P) (nN (boot_o_1 P) (nN (⟨(.type "dict"), none, (.dict ⟨[en P "__name__" 165 (sV "ringpost.sides" 429), en P "__doc__" 166 .none, en P "__package__" 167 .none, en P "__loader__" 168 (.builtin "__main__.__loader__#opaque"), en P "__spec__" 169 .none, en P "__annotations__" 170 (.ref 6), en P "__builtins__" 171 (.ref 4), en P "__file__" 173 (sV "/claim/cut.py" 172), en P "__cached__" 174 .none, en P "_wall" 193 (.ref 21), en P "PostError" 213 (.ref 31), en P "BadBounds" 229 (.ref 44), en P "BadRing" 245 (.ref 56), en P "BadTexts" 261 (.ref 68), en P "BadStep" 277 (.ref 80), en P "NotNow" 293 (.ref 92), en P "NoLetter" 309 (.ref 104), en P "MOST_WINDOW" 313 (.int (20) 312), en P "MOST_BACK" 315 (.int (20) 314), en P "MOST_RING" 317 (.int (200) 316), en P "MOST_TEXTS" 319 (.int (400) 318), en P "MOST_SIGNS" 321 (.int (40) 320), en P "is_among" 330 (.ref 113), en P "are_bounds" 337 (.ref 120), en P "need_bounds" 344 (.ref 127), en P "need_ring" 351 (.ref 134), en P "need_texts" 359 (.ref 141), en P "least_ring" 366 (.ref 148), en P "Post" 428 (.ref 193), en P "Sender" 490 (.ref 235)]⟩ 30), ⟨[]⟩⟩) (nN (boot_o_7 P) (nN (dQ P) (nN (jU P) (nN (zO) (lN (gC P)) (lN (jk P))) (nN (kq P) (lN (tT [])) (lN (mX P)))) (nN (fc P) (nN (gT P) (lN (zO)) (lN (jl P))) (nN (gc P) (lN (hJ P)) (lN (kJ P))))) (nN (eV P) (nN (fq P) (nN (gM P) (lN (tT [])) (lN (lI P))) (nN (fw P) (lN (jO P)) (lN (jK P)))) (nN (fN P) (nN (zO) (lN (lK P)) (lN (tT []))) (nN (fW P) (lN (jt P)) .nil)))) (nN (dG P) (nN (eE P) (nN (eQ P) (nN (fF P) (lN (tT [])) (lN (iI P))) (nN (zO) (lN (tT [])) (lN (zO)))) (nN (zO) (nN (jf P) (lN (iC P)) (lN (lu P))) (nN (zO) (lN (jI P)) .nil))) (nN (eH P) (nN (eR P) (nN (zO) (lN (iA P)) (lN (kO P))) (nN (tT []) (lN (zO)) (lN (jE P)))) (nN (gS P) (nN (je P) (lN (kP P)) (lN (tT []))) (nN (gE P) (lN (tT [])) .nil))))) (nN (boot_o_5 P) (nN (boot_o_9 P) (nN (dT P) (nN (fh P) (nN (ie P) (lN (zO)) (lN (jF P))) (nN (lX P) (lN (jz P)) (lN (kS P)))) (nN (gX P) (nN (jj P) (lN (tT [])) (lN (mT P))) (nN (gJ P) (lN (tT [])) .nil))) (nN (eK P) (nN (fn P) (nN (iF P) (lN (gK P)) (lN (tT []))) (nN (fR P) (lN (ik P)) (lN (jq P)))) (nN (gU P) (nN (jV P) (lN (lQ P)) (lN (kR P))) (nN (tT []) (lN (zO)) .nil)))) (nN (dI P) (nN (eN P) (nN (fI P) (nN (iJ P) (lN (gG P)) (lN (jv P))) (nN (ic P) (lN (io P)) (lN (tT [])))) (nN (hN P) (nN (lS P) (lN (tT [])) (lN (zO))) (nN (tT []) (lN (lz P)) .nil))) (nN (dX P) (nN (eX P) (nN (hX P) (lN (gI P)) (lN (tT []))) (nN (fA P) (lN (tT [])) (lN (jG P)))) (nN (iD P) (nN (kh P) (lN (zO)) (lN (lM P))) (nN (iN P) (lN (jp P)) .nil)))))) (nN (boot_o_2 P) (nN (boot_o_4 P) (nN (boot_o_8 P) (nN (eA P) (nN (eD P) (nN (iQ P) (lN (tT [])) (lN (jN P))) (nN (lY P) (lN (kC P)) (lN (kM P)))) (nN (gP P) (nN (iM P) (lN (iu P)) (lN (tT []))) (nN (gx P) (lN (jH P)) .nil))) (nN (eJ P) (nN (fj P) (nN (hU P) (lN (zO)) (lN (lP P))) (nN (fC P) (lN (hZ P)) (lN (jC P)))) (nN (fH P) (nN (ki P) (lN (tT [])) (lN (nt P))) (nN (gm P) (lN (tT [])) .nil)))) (nN (⟨.none, none, (.fields ⟨[(.int (1) 0), (.int (0) 0), (.ref 20), (.int (5) 0), (.int (0) 0), (.ref 27), (.int (7) 0), (.int (0) 0), (.ref 40), (.int (9) 0), (.int (0) 0), (.ref 52), (.int (11) 0), (.int (0) 0), (.ref 64), (.int (13) 0), (.int (0) 0), (.ref 76), (.int (15) 0), (.int (0) 0), (.ref 88), (.int (17) 0), (.int (0) 0), (.ref 100), (.int (25) 0), (.int (0) 0), (.ref 112), (.int (27) 0), (.int (0) 0), (.ref 119), (.int (33) 0), (.int (0) 0), (.ref 126), (.int (36) 0), (.int (0) 0), (.ref 133), (.int (39) 0), (.int (0) 0), (.ref 140), (.int (45) 0), (.int (0) 0), (.ref 147), (.int (49) 0), (.int (0) 0), (.ref 154), (.int (70) 0), (.int (0) 0), (.ref 203)]⟩), ⟨[]⟩⟩) (nN (dR P) (nN (eZ P) (nN (fP P) (lN (gL P)) (lN (jP P))) (nN (fT P) (lN (zO)) (lN (js P)))) (nN (gW P) (nN (jX P) (lN (iR P)) (lN (tT []))) (nN (fX P) (lN (tT [])) .nil))) (nN (ei P) (nN (eO P) (nN (iB P) (lN (gy P)) (lN (kT P))) (nN (zO) (lN (iz P)) (lN (jy P)))) (nN (ir P) (nN (ji P) (lN (tT [])) (lN (zO))) (nN (tT []) (lN (kI P)) .nil))))) (nN (boot_o_6 P) (nN (boot_o_10 P) (nN (dU P) (nN (eu P) (nN (fM P) (lN (fy P)) (lN (ig P))) (nN (tT []) (lN (iP P)) (lN (tT [])))) (nN (tT []) (nN (jg P) (lN (jn P)) (lN (lO P))) (nN (tT []) (lN (zO)) .nil))) (nN (ez P) (nN (eI P) (nN (tT []) (lN (tT [])) (lN (lH P))) (nN (gq P) (lN (tT [])) (lN (jm P)))) (nN (gQ P) (nN (tT []) (lN (lq P)) (lN (kY P))) (nN (zO) (lN (jQ P)) .nil)))) (nN (dK P) (nN (eM P) (nN (fE P) (nN (ip P) (lN (fZ P)) (lN (tT []))) (nN (tT []) (lN (tT [])) (lN (kK P)))) (nN (tT []) (nN (tT []) (lN (lm P)) (lN (lh P))) (nN (jw P) (lN (jA P)) .nil))) (nN (dW P) (nN (fg P) (nN (tT []) (lN (tT [])) (lN (zO))) (nN (tT []) (lN (jr P)) (lN (lC P)))) (nN (tT []) (nN (jT P) (lN (ju P)) (lN (tT []))) (nN (gf P) (lN (jL P)) .nil))))))), 240, lf0, ⟨[]⟩, ⟨0, 0, 0, 0⟩, 491, os⟩ : Params → SharedT) w.params
noncomputable def AT : List Stmt := ((behindTheImports pw).drop 24).take 1
noncomputable def Bg (w : World) : Prop := (fun os => segRunT treeTable pw w m0 ann 1 326 (S9 w os) (piecesOf AT env cE ⟨69, 0, 69, 8⟩ B)) = fun os => some (Flow.next, S10 w os, cE, ⟨70, 0, 93, 40⟩)
theorem pc9 (w : World) : Bg w := by
  unfold Bg
  rw [PySem.W.Fast.te10110043849684766642, PySem.W.Fast.te14364793385576792824]
  kernel_rfl
noncomputable def oY (P : Params) : Obj := ⟨(.type "builtin_function_or_method"), none, (.fields ⟨[(.builtin "type.__prepare__"), (.type "type")]⟩), ⟨[]⟩⟩
noncomputable def pN (P : Params) : Obj := ⟨(.type "dict"), none, (.dict ⟨[en P "__module__" 498 (sV "ringpost.sides" 429), en P "__qualname__" 500 (sV "Taker" 499), en P "__firstlineno__" 502 (.int (94) 501), en P "__init__" 511 (.ref 253), en P "came" 521 (.ref 260), en P "want" 528 (.ref 267), en P "gone" 535 (.ref 274), en P "kept" 542 (.ref 281), en P "__static_attributes__" 548 (.ref 282)]⟩ 9), ⟨[]⟩⟩
noncomputable def ql (P : Params) : Obj := ⟨.none, none, (.fields ⟨[(.int (96) 0), (.int (4) 0), (.ref 252), (.int (103) 0), (.int (4) 0), (.ref 259), (.int (112) 0), (.int (4) 0), (.ref 266), (.int (115) 0), (.int (4) 0), (.ref 273), (.int (118) 0), (.int (4) 0), (.ref 280)]⟩), ⟨[]⟩⟩
noncomputable def pJ (P : Params) : Obj := cO "Taker" 493 "Taker" 494 495 94 0 0 243 false 181 244 .none .none .none .none 496 94 497
noncomputable def pO (P : Params) : Obj := ⟨(.type "frame"), none, .plain, ⟨[(some (.ref 245)), (some (.ref 3)), (some (.ref 242)), none, (some (sV "ringpost.sides" 429)), none, (some (.ref 0))]⟩⟩
noncomputable def mr (P : Params) : Obj := tT [(sV "self" 506), (sV "room" 507), (sV "ring" 508)]
noncomputable def qk (P : Params) : Obj := fO "__init__" "Taker.__init__" (bc pw.main.body 25) 0
noncomputable def mP (P : Params) : Obj := cO "__init__" 503 "Taker.__init__" 504 505 96 3 3 247 true 181 248 .none (.ref 249) (.ref 250) (.ref 251) 509 96 510
noncomputable def mS (P : Params) : Obj := gO "__init__" "Taker.__init__" (bc pw.main.body 25) 0 (sV "ringpost.sides" 429) 252
noncomputable def mt (P : Params) : Obj := tT [(sV "self" 515), (sV "number" 516), (sV "text" 517), (sV "step" 518)]
noncomputable def mR (P : Params) : Obj := fO "came" "Taker.came" (bc pw.main.body 25) 1
noncomputable def lL (P : Params) : Obj := cO "came" 512 "Taker.came" 513 514 103 3 3 254 true 181 255 .none (.ref 256) (.ref 257) (.ref 258) 519 103 520
noncomputable def lJ (P : Params) : Obj := gO "came" "Taker.came" (bc pw.main.body 25) 1 (sV "ringpost.sides" 429) 259
noncomputable def lf (P : Params) : Obj := tT [(sV "self" 525)]
noncomputable def mF (P : Params) : Obj := fO "want" "Taker.want" (bc pw.main.body 25) 2
noncomputable def kW (P : Params) : Obj := cO "want" 522 "Taker.want" 523 524 112 1 3 261 true 181 262 .none (.ref 263) (.ref 264) (.ref 265) 526 112 527
noncomputable def kL (P : Params) : Obj := gO "want" "Taker.want" (bc pw.main.body 25) 2 (sV "ringpost.sides" 429) 266
noncomputable def kD (P : Params) : Obj := tT [(sV "self" 532)]
noncomputable def pk (P : Params) : Obj := fO "gone" "Taker.gone" (bc pw.main.body 25) 3
noncomputable def nF (P : Params) : Obj := cO "gone" 529 "Taker.gone" 530 531 115 1 3 268 true 181 269 .none (.ref 270) (.ref 271) (.ref 272) 533 115 534
noncomputable def nJ (P : Params) : Obj := gO "gone" "Taker.gone" (bc pw.main.body 25) 3 (sV "ringpost.sides" 429) 273
noncomputable def pu (P : Params) : Obj := fO "kept" "Taker.kept" (bc pw.main.body 25) 4
noncomputable def nK (P : Params) : Obj := cO "kept" 536 "Taker.kept" 537 538 118 1 3 275 true 181 276 .none (.ref 277) (.ref 278) (.ref 279) 540 118 541
noncomputable def nE (P : Params) : Obj := gO "kept" "Taker.kept" (bc pw.main.body 25) 4 (sV "ringpost.sides" 429) 280
noncomputable def nq (P : Params) : Obj := tT [(sV "early" 543), (sV "own" 544), (sV "place" 545), (sV "ring" 546), (sV "room" 547)]
noncomputable def nD (P : Params) : Obj := ⟨(.type "dict"), none, (.dict ⟨[en P "__module__" 498 (sV "ringpost.sides" 429), en P "__firstlineno__" 502 (.int (94) 501), en P "__init__" 511 (.ref 253), en P "came" 521 (.ref 260), en P "want" 528 (.ref 267), en P "gone" 535 (.ref 274), en P "kept" 542 (.ref 281), en P "__static_attributes__" 548 (.ref 282), en P "__dict__" 550 (.ref 285), en P "__weakref__" 552 (.ref 286), en P "__doc__" 553 .none]⟩ 4), ⟨[]⟩⟩
noncomputable def mE (P : Params) : Obj := ⟨(.type "type"), none, (.cls { name := (sS "Taker"), bases := [(.type "object")], mro := [(.ref 284), (.type "object")], ns := 283, qualname := (sS "Taker"), hasDict := true, slotNames := [], subclasses := [], abstract := false, collection := none, hasDel := false }), ⟨[none, none, (some (sV "Taker" 491)), (some (sV "Taker" 499)), (some (.builtin "object.__new__")), (some (.bool true))]⟩⟩
noncomputable def nA (P : Params) : Obj := ⟨(.type "getset_descriptor"), none, (.fields ⟨[(sV "__dict__" 549), (.ref 284), (.builtin "function.__dict__"), (.builtin "function.__dict__#set")]⟩), ⟨[]⟩⟩
noncomputable def mG (P : Params) : Obj := ⟨(.type "getset_descriptor"), none, (.fields ⟨[(sV "__weakref__" 551), (.ref 284), (.builtin "ExceptionGroup.__weakref__"), .none]⟩), ⟨[]⟩⟩
noncomputable def qa (P : Params) : Obj := ⟨(.type "super"), none, (.fields ⟨[(.ref 284), (.ref 284), (.ref 284)]⟩), ⟨[]⟩⟩
noncomputable def pr (P : Params) : Obj := ⟨(.type "builtin_function_or_method"), none, (.fields ⟨[(.builtin "object.__init_subclass__"), (.ref 284)]⟩), ⟨[]⟩⟩
noncomputable def mC (P : Params) : Obj := tT [(sV "send" 558), (sV "hand" 559), (sV "tell" 560)]
noncomputable def Bn (P : Params) : BT := (nN (jU P) (nN (zO) (nN (gC P) (lN (zO)) .nil) (lN (jk P))) (nN (kq P) (nN (tT []) (lN (qa P)) .nil) (lN (mX P))))
noncomputable def BX (P : Params) : BT := (nN (fN P) (nN (zO) (nN (lK P) (lN (pu P)) .nil) (lN (tT []))) (nN (fW P) (lN (jt P)) (lN (tT []))))
noncomputable def AU (P : Params) : BT := (nN (zO) (nN (jf P) (nN (iC P) (lN (tT [])) .nil) (lN (lu P))) (nN (zO) (lN (jI P)) (lN (tT []))))
noncomputable def Bv (P : Params) : BT := (nN (gS P) (nN (je P) (nN (kP P) (lN (nD P)) .nil) (lN (tT []))) (nN (gE P) (lN (tT [])) (lN (qk P))))
noncomputable def BZ (P : Params) : BT := (nN (fh P) (nN (ie P) (nN (zO) (lN (tT [])) .nil) (lN (jF P))) (nN (lX P) (nN (jz P) (lN (mC P)) .nil) (lN (kS P))))
noncomputable def BI (P : Params) : BT := (nN (gX P) (nN (jj P) (nN (tT []) (lN (nF P)) .nil) (lN (mT P))) (nN (gJ P) (lN (tT [])) (lN (oY P))))
noncomputable def Bx (P : Params) : BT := (nN (gU P) (nN (jV P) (nN (lQ P) (lN (nE P)) .nil) (lN (kR P))) (nN (tT []) (lN (zO)) (lN (mr P))))
noncomputable def BU (P : Params) : BT := (nN (hN P) (nN (lS P) (nN (tT []) (lN (tT [(sV "self" 539)])) .nil) (lN (zO))) (nN (tT []) (lN (lz P)) (lN (pJ P))))
noncomputable def BR (P : Params) : BT := (nN (iD P) (nN (kh P) (nN (zO) (lN (nA P)) .nil) (lN (lM P))) (nN (iN P) (lN (jp P)) (lN (mS P))))
noncomputable def Cr (P : Params) : BT := (nN (eD P) (nN (iQ P) (nN (tT []) (lN (mt P)) .nil) (lN (jN P))) (nN (lY P) (nN (kC P) (lN (pr P)) .nil) (lN (kM P))))
noncomputable def BH (P : Params) : BT := (nN (gP P) (nN (iM P) (nN (iu P) (lN (pk P)) .nil) (lN (tT []))) (nN (gx P) (lN (jH P)) (lN (tT []))))
noncomputable def Bs (P : Params) : BT := (nN (fH P) (nN (ki P) (nN (tT []) (lN (nK P)) .nil) (lN (nt P))) (nN (gm P) (lN (tT [])) (lN (zO))))
noncomputable def Cp (P : Params) : BT := (nN (gW P) (nN (jX P) (nN (iR P) (lN (zO)) .nil) (lN (tT []))) (nN (fX P) (lN (tT [])) (lN (ql P))))
noncomputable def BQ (P : Params) : BT := (nN (ir P) (nN (ji P) (nN (tT []) (lN (mE P)) .nil) (lN (zO))) (nN (tT []) (lN (kI P)) (lN (mP P))))
noncomputable def Ba (P : Params) : BT := (nN (tT []) (nN (jg P) (nN (jn P) (lN (nJ P)) .nil) (lN (lO P))) (nN (tT []) (lN (zO)) (lN (pN P))))
noncomputable def Cg (P : Params) : BT := (nN (gQ P) (nN (tT []) (nN (lq P) (lN (nq P)) .nil) (lN (kY P))) (nN (zO) (lN (jQ P)) (lN (tT []))))
noncomputable def Cj (P : Params) : BT := (nN (tT []) (nN (tT []) (nN (lm P) (lN (tT [])) .nil) (lN (lh P))) (nN (jw P) (lN (jA P)) (lN (pO P))))
noncomputable def BM (P : Params) : BT := (nN (tT []) (nN (jT P) (nN (ju P) (lN (mG P)) .nil) (lN (tT []))) (nN (gf P) (lN (jL P)) (lN (tT []))))
noncomputable def S11 (w : World) (os : OsState) : SharedT := (fun P => ⟨(nN (boot_o_0 P) (nN (boot_o_1 P) (nN (⟨(.type "dict"), none, (.dict ⟨[en P "__name__" 165 (sV "ringpost.runs" 556), en P "__doc__" 166 .none, en P "__package__" 167 .none, en P "__loader__" 168 (.builtin "__main__.__loader__#opaque"), en P "__spec__" 169 .none, en P "__annotations__" 170 (.ref 6), en P "__builtins__" 171 (.ref 4), en P "__file__" 173 (sV "/claim/cut.py" 172), en P "__cached__" 174 .none, en P "_wall" 193 (.ref 21), en P "PostError" 213 (.ref 31), en P "BadBounds" 229 (.ref 44), en P "BadRing" 245 (.ref 56), en P "BadTexts" 261 (.ref 68), en P "BadStep" 277 (.ref 80), en P "NotNow" 293 (.ref 92), en P "NoLetter" 309 (.ref 104), en P "MOST_WINDOW" 313 (.int (20) 312), en P "MOST_BACK" 315 (.int (20) 314), en P "MOST_RING" 317 (.int (200) 316), en P "MOST_TEXTS" 319 (.int (400) 318), en P "MOST_SIGNS" 321 (.int (40) 320), en P "is_among" 330 (.ref 113), en P "are_bounds" 337 (.ref 120), en P "need_bounds" 344 (.ref 127), en P "need_ring" 351 (.ref 134), en P "need_texts" 359 (.ref 141), en P "least_ring" 366 (.ref 148), en P "Post" 428 (.ref 193), en P "Sender" 490 (.ref 235), en P "Taker" 555 (.ref 284), en P "WORDS" 561 (.ref 289), en P "MOST_NUMBER" 563 (.int (999999) 562)]⟩ 33), ⟨[]⟩⟩) (nN (boot_o_7 P) (nN (dQ P) (Bn P) (nN (fc P) (nN (gT P) (nN (zO) (lN (tT [])) .nil) (lN (jl P))) (nN (gc P) (lN (hJ P)) (lN (kJ P))))) (nN (eV P) (nN (fq P) (nN (gM P) (nN (tT []) (lN (lf P)) .nil) (lN (lI P))) (nN (fw P) (lN (jO P)) (lN (jK P)))) (BX P))) (nN (dG P) (nN (eE P) (nN (eQ P) (nN (fF P) (nN (tT []) (lN (lL P)) .nil) (lN (iI P))) (nN (zO) (lN (tT [])) (lN (zO)))) (AU P)) (nN (eH P) (nN (eR P) (nN (zO) (nN (iA P) (lN (kL P)) .nil) (lN (kO P))) (nN (tT []) (lN (zO)) (lN (jE P)))) (Bv P)))) (nN (boot_o_5 P) (nN (boot_o_9 P) (nN (dT P) (BZ P) (BI P)) (nN (eK P) (nN (fn P) (nN (iF P) (nN (gK P) (lN (mF P)) .nil) (lN (tT []))) (nN (fR P) (lN (ik P)) (lN (jq P)))) (Bx P))) (nN (dI P) (nN (eN P) (nN (fI P) (nN (iJ P) (nN (gG P) (lN (tT [])) .nil) (lN (jv P))) (nN (ic P) (lN (io P)) (lN (tT [])))) (BU P)) (nN (dX P) (nN (eX P) (nN (hX P) (nN (gI P) (lN (zO)) .nil) (lN (tT []))) (nN (fA P) (lN (tT [])) (lN (jG P)))) (BR P))))) (nN (boot_o_2 P) (nN (boot_o_4 P) (nN (boot_o_8 P) (nN (eA P) (Cr P) (BH P)) (nN (eJ P) (nN (fj P) (nN (hU P) (nN (zO) (lN (tT [])) .nil) (lN (lP P))) (nN (fC P) (lN (hZ P)) (lN (jC P)))) (Bs P))) (nN (⟨.none, none, (.fields ⟨[(.int (1) 0), (.int (0) 0), (.ref 20), (.int (5) 0), (.int (0) 0), (.ref 27), (.int (7) 0), (.int (0) 0), (.ref 40), (.int (9) 0), (.int (0) 0), (.ref 52), (.int (11) 0), (.int (0) 0), (.ref 64), (.int (13) 0), (.int (0) 0), (.ref 76), (.int (15) 0), (.int (0) 0), (.ref 88), (.int (17) 0), (.int (0) 0), (.ref 100), (.int (25) 0), (.int (0) 0), (.ref 112), (.int (27) 0), (.int (0) 0), (.ref 119), (.int (33) 0), (.int (0) 0), (.ref 126), (.int (36) 0), (.int (0) 0), (.ref 133), (.int (39) 0), (.int (0) 0), (.ref 140), (.int (45) 0), (.int (0) 0), (.ref 147), (.int (49) 0), (.int (0) 0), (.ref 154), (.int (70) 0), (.int (0) 0), (.ref 203), (.int (94) 0), (.int (0) 0), (.ref 245)]⟩), ⟨[]⟩⟩) (nN (dR P) (nN (eZ P) (nN (fP P) (nN (gL P) (lN (lJ P)) .nil) (lN (jP P))) (nN (fT P) (lN (zO)) (lN (js P)))) (Cp P)) (nN (ei P) (nN (eO P) (nN (iB P) (nN (gy P) (lN (tT [])) .nil) (lN (kT P))) (nN (zO) (lN (iz P)) (lN (jy P)))) (BQ P)))) (nN (boot_o_6 P) (nN (boot_o_10 P) (nN (dU P) (nN (eu P) (nN (fM P) (nN (fy P) (lN (mR P)) .nil) (lN (ig P))) (nN (tT []) (lN (iP P)) (lN (tT [])))) (Ba P)) (nN (ez P) (nN (eI P) (nN (tT []) (nN (tT []) (lN (kW P)) .nil) (lN (lH P))) (nN (gq P) (lN (tT [])) (lN (jm P)))) (Cg P))) (nN (dK P) (nN (eM P) (nN (fE P) (nN (ip P) (nN (fZ P) (lN (zO)) .nil) (lN (tT []))) (nN (tT []) (lN (tT [])) (lN (kK P)))) (Cj P)) (nN (dW P) (nN (fg P) (nN (tT []) (nN (tT []) (lN (kD P)) .nil) (lN (zO))) (nN (tT []) (lN (jr P)) (lN (lC P)))) (BM P)))))), 290, lf0, ⟨[]⟩, ⟨0, 0, 0, 0⟩, 564, os⟩ : Params → SharedT) w.params
noncomputable def zq : List Stmt := ((behindTheImports pw).drop 25).take 4
noncomputable def yP (w : World) : Prop := (fun os => segRunT treeTable pw w m0 ann 1 386 (S10 w os) (piecesOf zq env cE ⟨70, 0, 93, 40⟩ B)) = fun os => some (Flow.next, S11 w os, cE, ⟨122, 0, 122, 11⟩)
theorem CO (w : World) : yP w := by
  unfold yP
  rw [PySem.W.Fast.te10110043849684766642, PySem.W.Fast.te14364793385576792824]
  kernel_rfl
noncomputable def qp (P : Params) : Obj := fO "is_step" "is_step" pw.main.body 29
noncomputable def mI (P : Params) : Obj := cO "is_step" 564 "is_step" 565 566 123 1 3 290 true 181 291 .none (.ref 292) (.ref 293) (.ref 294) 568 123 569
noncomputable def mQ (P : Params) : Obj := gO "is_step" "is_step" pw.main.body 29 (sV "ringpost.runs" 556) 295
noncomputable def pI (P : Params) : Obj := fO "need_step" "need_step" pw.main.body 30
noncomputable def mL (P : Params) : Obj := cO "need_step" 571 "need_step" 572 573 127 1 3 297 true 181 298 .none (.ref 299) (.ref 300) (.ref 301) 575 127 576
noncomputable def ng (P : Params) : Obj := gO "need_step" "need_step" pw.main.body 30 (sV "ringpost.runs" 556) 302
noncomputable def S12 (w : World) (os : OsState) : SharedT := (fun P => ⟨(nN (boot_o_0 P) (nN (boot_o_1 P) (nN (⟨(.type "dict"), none, (.dict ⟨[en P "__name__" 165 (sV "ringpost.runs" 556), en P "__doc__" 166 .none, en P "__package__" 167 .none, en P "__loader__" 168 (.builtin "__main__.__loader__#opaque"), en P "__spec__" 169 .none, en P "__annotations__" 170 (.ref 6), en P "__builtins__" 171 (.ref 4), en P "__file__" 173 (sV "/claim/cut.py" 172), en P "__cached__" 174 .none, en P "_wall" 193 (.ref 21), en P "PostError" 213 (.ref 31), en P "BadBounds" 229 (.ref 44), en P "BadRing" 245 (.ref 56), en P "BadTexts" 261 (.ref 68), en P "BadStep" 277 (.ref 80), en P "NotNow" 293 (.ref 92), en P "NoLetter" 309 (.ref 104), en P "MOST_WINDOW" 313 (.int (20) 312), en P "MOST_BACK" 315 (.int (20) 314), en P "MOST_RING" 317 (.int (200) 316), en P "MOST_TEXTS" 319 (.int (400) 318), en P "MOST_SIGNS" 321 (.int (40) 320), en P "is_among" 330 (.ref 113), en P "are_bounds" 337 (.ref 120), en P "need_bounds" 344 (.ref 127), en P "need_ring" 351 (.ref 134), en P "need_texts" 359 (.ref 141), en P "least_ring" 366 (.ref 148), en P "Post" 428 (.ref 193), en P "Sender" 490 (.ref 235), en P "Taker" 555 (.ref 284), en P "WORDS" 561 (.ref 289), en P "MOST_NUMBER" 563 (.int (999999) 562), en P "is_step" 570 (.ref 296), en P "need_step" 577 (.ref 303)]⟩ 35), ⟨[]⟩⟩) (nN (boot_o_7 P) (nN (dQ P) (Bn P) (nN (fc P) (nN (gT P) (nN (zO) (lN (tT [])) .nil) (lN (jl P))) (nN (gc P) (nN (hJ P) (lN (ng P)) .nil) (lN (kJ P))))) (nN (eV P) (nN (fq P) (nN (gM P) (nN (tT []) (lN (lf P)) .nil) (lN (lI P))) (nN (fw P) (nN (jO P) (lN (mI P)) .nil) (lN (jK P)))) (BX P))) (nN (dG P) (nN (eE P) (nN (eQ P) (nN (fF P) (nN (tT []) (lN (lL P)) .nil) (lN (iI P))) (nN (zO) (nN (tT []) (lN (zO)) .nil) (lN (zO)))) (AU P)) (nN (eH P) (nN (eR P) (nN (zO) (nN (iA P) (lN (kL P)) .nil) (lN (kO P))) (nN (tT []) (nN (zO) (lN (tT [(sV "thing" 574)])) .nil) (lN (jE P)))) (Bv P)))) (nN (boot_o_5 P) (nN (boot_o_9 P) (nN (dT P) (BZ P) (BI P)) (nN (eK P) (nN (fn P) (nN (iF P) (nN (gK P) (lN (mF P)) .nil) (lN (tT []))) (nN (fR P) (nN (ik P) (lN (tT [])) .nil) (lN (jq P)))) (Bx P))) (nN (dI P) (nN (eN P) (nN (fI P) (nN (iJ P) (nN (gG P) (lN (tT [])) .nil) (lN (jv P))) (nN (ic P) (nN (io P) (lN (tT [])) .nil) (lN (tT [])))) (BU P)) (nN (dX P) (nN (eX P) (nN (hX P) (nN (gI P) (lN (zO)) .nil) (lN (tT []))) (nN (fA P) (nN (tT []) (lN (pI P)) .nil) (lN (jG P)))) (BR P))))) (nN (boot_o_2 P) (nN (boot_o_4 P) (nN (boot_o_8 P) (nN (eA P) (Cr P) (BH P)) (nN (eJ P) (nN (fj P) (nN (hU P) (nN (zO) (lN (tT [])) .nil) (lN (lP P))) (nN (fC P) (nN (hZ P) (lN (mQ P)) .nil) (lN (jC P)))) (Bs P))) (nN (⟨.none, none, (.fields ⟨[(.int (1) 0), (.int (0) 0), (.ref 20), (.int (5) 0), (.int (0) 0), (.ref 27), (.int (7) 0), (.int (0) 0), (.ref 40), (.int (9) 0), (.int (0) 0), (.ref 52), (.int (11) 0), (.int (0) 0), (.ref 64), (.int (13) 0), (.int (0) 0), (.ref 76), (.int (15) 0), (.int (0) 0), (.ref 88), (.int (17) 0), (.int (0) 0), (.ref 100), (.int (25) 0), (.int (0) 0), (.ref 112), (.int (27) 0), (.int (0) 0), (.ref 119), (.int (33) 0), (.int (0) 0), (.ref 126), (.int (36) 0), (.int (0) 0), (.ref 133), (.int (39) 0), (.int (0) 0), (.ref 140), (.int (45) 0), (.int (0) 0), (.ref 147), (.int (49) 0), (.int (0) 0), (.ref 154), (.int (70) 0), (.int (0) 0), (.ref 203), (.int (94) 0), (.int (0) 0), (.ref 245), (.int (123) 0), (.int (0) 0), (.ref 295), (.int (127) 0), (.int (0) 0), (.ref 302)]⟩), ⟨[]⟩⟩) (nN (dR P) (nN (eZ P) (nN (fP P) (nN (gL P) (lN (lJ P)) .nil) (lN (jP P))) (nN (fT P) (nN (zO) (lN (tT [(sV "thing" 567)])) .nil) (lN (js P)))) (Cp P)) (nN (ei P) (nN (eO P) (nN (iB P) (nN (gy P) (lN (tT [])) .nil) (lN (kT P))) (nN (zO) (nN (iz P) (lN (tT [])) .nil) (lN (jy P)))) (BQ P)))) (nN (boot_o_6 P) (nN (boot_o_10 P) (nN (dU P) (nN (eu P) (nN (fM P) (nN (fy P) (lN (mR P)) .nil) (lN (ig P))) (nN (tT []) (nN (iP P) (lN (tT [])) .nil) (lN (tT [])))) (Ba P)) (nN (ez P) (nN (eI P) (nN (tT []) (nN (tT []) (lN (kW P)) .nil) (lN (lH P))) (nN (gq P) (nN (tT []) (lN (zO)) .nil) (lN (jm P)))) (Cg P))) (nN (dK P) (nN (eM P) (nN (fE P) (nN (ip P) (nN (fZ P) (lN (zO)) .nil) (lN (tT []))) (nN (tT []) (nN (tT []) (lN (qp P)) .nil) (lN (kK P)))) (Cj P)) (nN (dW P) (nN (fg P) (nN (tT []) (nN (tT []) (lN (kD P)) .nil) (lN (zO))) (nN (tT []) (nN (jr P) (lN (mL P)) .nil) (lN (lC P)))) (BM P)))))), 304, lf0, ⟨[]⟩, ⟨0, 0, 0, 0⟩, 578, os⟩ : Params → SharedT) w.params
noncomputable def zn : List Stmt := ((behindTheImports pw).drop 29).take 2
noncomputable def zj (w : World) : Prop := (fun os => segRunT treeTable pw w m0 ann 1 59 (S11 w os) (piecesOf zn env cE ⟨122, 0, 122, 11⟩ B)) = fun os => some (Flow.next, S12 w os, cE, ⟨127, 0, 129, 54⟩)
theorem Dp (w : World) : zj w := by
  unfold zj
  rw [PySem.W.Fast.te10110043849684766642, PySem.W.Fast.te14364793385576792824]
  kernel_rfl
noncomputable def sC (P : Params) : Obj := ⟨(.type "builtin_function_or_method"), none, (.fields ⟨[(.builtin "type.__prepare__"), (.type "type")]⟩), ⟨[]⟩⟩
noncomputable def rQ (P : Params) : Obj := ⟨(.type "dict"), none, (.dict ⟨[en P "__module__" 585 (sV "ringpost.runs" 556), en P "__qualname__" 587 (sV "Run" 586), en P "__firstlineno__" 589 (.int (130) 588), en P "__init__" 599 (.ref 317), en P "do" 609 (.ref 324), en P "out" 616 (.ref 331), en P "counts" 625 (.ref 338), en P "letters" 636 (.ref 345), en P "answers" 642 (.ref 350), en P "wrong" 649 (.ref 357), en P "copied" 657 (.ref 364), en P "__static_attributes__" 665 (.ref 365)]⟩ 12), ⟨[]⟩⟩
noncomputable def rI (P : Params) : Obj := ⟨.none, none, (.fields ⟨[(.int (132) 0), (.int (4) 0), (.ref 316), (.int (144) 0), (.int (4) 0), (.ref 323), (.int (155) 0), (.int (4) 0), (.ref 330), (.int (158) 0), (.int (4) 0), (.ref 337), (.int (162) 0), (.int (4) 0), (.ref 344), (.int (169) 0), (.int (4) 0), (.ref 349), (.int (172) 0), (.int (4) 0), (.ref 356), (.int (175) 0), (.int (4) 0), (.ref 363)]⟩), ⟨[]⟩⟩
noncomputable def rL (P : Params) : Obj := cO "Run" 580 "Run" 581 582 130 0 0 307 false 181 308 .none .none .none .none 583 130 584
noncomputable def rJ (P : Params) : Obj := ⟨(.type "frame"), none, .plain, ⟨[(some (.ref 309)), (some (.ref 3)), (some (.ref 306)), none, (some (sV "ringpost.runs" 556)), none, (some (.ref 0))]⟩⟩
noncomputable def po (P : Params) : Obj := tT [(sV "self" 593), (sV "bounds" 594), (sV "ring" 595), (sV "texts" 596)]
noncomputable def rO (P : Params) : Obj := fO "__init__" "Run.__init__" (bc pw.main.body 31) 0
noncomputable def oR (P : Params) : Obj := cO "__init__" 590 "Run.__init__" 591 592 132 4 3 311 true 181 312 .none (.ref 313) (.ref 314) (.ref 315) 597 132 598
noncomputable def oU (P : Params) : Obj := gO "__init__" "Run.__init__" (bc pw.main.body 31) 0 (sV "ringpost.runs" 556) 316
noncomputable def pg (P : Params) : Obj := tT [(sV "self" 603), (sV "step" 604), (sV "bears" 605), (sV "text" 606)]
noncomputable def td (P : Params) : Obj := fO "do" "Run.do" (bc pw.main.body 31) 1
noncomputable def pf (P : Params) : Obj := cO "do" 600 "Run.do" 601 602 144 2 3 318 true 181 319 .none (.ref 320) (.ref 321) (.ref 322) 607 144 608
noncomputable def pZ (P : Params) : Obj := gO "do" "Run.do" (bc pw.main.body 31) 1 (sV "ringpost.runs" 556) 323
noncomputable def sv (P : Params) : Obj := fO "out" "Run.out" (bc pw.main.body 31) 2
noncomputable def pv (P : Params) : Obj := cO "out" 610 "Run.out" 611 612 155 1 3 325 true 181 326 .none (.ref 327) (.ref 328) (.ref 329) 614 155 615
noncomputable def pM (P : Params) : Obj := gO "out" "Run.out" (bc pw.main.body 31) 2 (sV "ringpost.runs" 556) 330
noncomputable def pA (P : Params) : Obj := tT [(sV "self" 620), (sV "base" 621), (sV "top" 622)]
noncomputable def sq (P : Params) : Obj := fO "counts" "Run.counts" (bc pw.main.body 31) 3
noncomputable def oS (P : Params) : Obj := cO "counts" 617 "Run.counts" 618 619 158 1 3 332 true 181 333 .none (.ref 334) (.ref 335) (.ref 336) 623 158 624
noncomputable def pH (P : Params) : Obj := gO "counts" "Run.counts" (bc pw.main.body 31) 3 (sV "ringpost.runs" 556) 337
noncomputable def pX (P : Params) : Obj := tT [(sV "self" 629), (sV "found" 630), (sV "number" 631), (sV "bears" 632), (sV "text" 633)]
noncomputable def sE (P : Params) : Obj := fO "letters" "Run.letters" (bc pw.main.body 31) 4
noncomputable def qn (P : Params) : Obj := cO "letters" 626 "Run.letters" 627 628 162 1 3 339 true 181 340 .none (.ref 341) (.ref 342) (.ref 343) 634 162 635
noncomputable def pG (P : Params) : Obj := gO "letters" "Run.letters" (bc pw.main.body 31) 4 (sV "ringpost.runs" 556) 344
noncomputable def rl (P : Params) : Obj := fO "answers" "Run.answers" (bc pw.main.body 31) 5
noncomputable def pq (P : Params) : Obj := cO "answers" 637 "Run.answers" 638 639 169 1 3 346 true 181 347 .none .none .none (.ref 348) 640 169 641
noncomputable def qg (P : Params) : Obj := gO "answers" "Run.answers" (bc pw.main.body 31) 5 (sV "ringpost.runs" 556) 349
noncomputable def rk (P : Params) : Obj := fO "wrong" "Run.wrong" (bc pw.main.body 31) 6
noncomputable def oV (P : Params) : Obj := cO "wrong" 643 "Run.wrong" 644 645 172 1 3 351 true 181 352 .none (.ref 353) (.ref 354) (.ref 355) 647 172 648
noncomputable def oQ (P : Params) : Obj := gO "wrong" "Run.wrong" (bc pw.main.body 31) 6 (sV "ringpost.runs" 556) 356
noncomputable def pi (P : Params) : Obj := tT [(sV "self" 653), (sV "other" 654)]
noncomputable def sM (P : Params) : Obj := fO "copied" "Run.copied" (bc pw.main.body 31) 7
noncomputable def pL (P : Params) : Obj := cO "copied" 650 "Run.copied" 651 652 175 1 3 358 true 181 359 .none (.ref 360) (.ref 361) (.ref 362) 655 175 656
noncomputable def pQ (P : Params) : Obj := gO "copied" "Run.copied" (bc pw.main.body 31) 7 (sV "ringpost.runs" 556) 363
noncomputable def qo (P : Params) : Obj := tT [(sV "back" 658), (sV "bounds" 659), (sV "forth" 660), (sV "ring" 661), (sV "sender" 662), (sV "taker" 663), (sV "texts" 664)]
noncomputable def pT (P : Params) : Obj := ⟨(.type "dict"), none, (.dict ⟨[en P "__module__" 585 (sV "ringpost.runs" 556), en P "__firstlineno__" 589 (.int (130) 588), en P "__init__" 599 (.ref 317), en P "do" 609 (.ref 324), en P "out" 616 (.ref 331), en P "counts" 625 (.ref 338), en P "letters" 636 (.ref 345), en P "answers" 642 (.ref 350), en P "wrong" 649 (.ref 357), en P "copied" 657 (.ref 364), en P "__static_attributes__" 665 (.ref 365), en P "__dict__" 667 (.ref 368), en P "__weakref__" 669 (.ref 369), en P "__doc__" 670 .none]⟩ 4), ⟨[]⟩⟩
noncomputable def qd (P : Params) : Obj := ⟨(.type "type"), none, (.cls { name := (sS "Run"), bases := [(.type "object")], mro := [(.ref 367), (.type "object")], ns := 366, qualname := (sS "Run"), hasDict := true, slotNames := [], subclasses := [], abstract := false, collection := none, hasDel := false }), ⟨[none, none, (some (sV "Run" 578)), (some (sV "Run" 586)), (some (.builtin "object.__new__")), (some (.bool true))]⟩⟩
noncomputable def ph (P : Params) : Obj := ⟨(.type "getset_descriptor"), none, (.fields ⟨[(sV "__dict__" 666), (.ref 367), (.builtin "function.__dict__"), (.builtin "function.__dict__#set")]⟩), ⟨[]⟩⟩
noncomputable def oZ (P : Params) : Obj := ⟨(.type "getset_descriptor"), none, (.fields ⟨[(sV "__weakref__" 668), (.ref 367), (.builtin "ExceptionGroup.__weakref__"), .none]⟩), ⟨[]⟩⟩
noncomputable def qZ (P : Params) : Obj := ⟨(.type "super"), none, (.fields ⟨[(.ref 367), (.ref 367), (.ref 367)]⟩), ⟨[]⟩⟩
noncomputable def rR (P : Params) : Obj := ⟨(.type "builtin_function_or_method"), none, (.fields ⟨[(.builtin "object.__init_subclass__"), (.ref 367)]⟩), ⟨[]⟩⟩
noncomputable def S13 (w : World) (os : OsState) : SharedT := (fun P => ⟨(nN (boot_o_0 P) (nN (boot_o_1 P) (nN (⟨(.type "dict"), none, (.dict ⟨[en P "__name__" 165 (sV "ringpost.runs" 556), en P "__doc__" 166 .none, en P "__package__" 167 .none, en P "__loader__" 168 (.builtin "__main__.__loader__#opaque"), en P "__spec__" 169 .none, en P "__annotations__" 170 (.ref 6), en P "__builtins__" 171 (.ref 4), en P "__file__" 173 (sV "/claim/cut.py" 172), en P "__cached__" 174 .none, en P "_wall" 193 (.ref 21), en P "PostError" 213 (.ref 31), en P "BadBounds" 229 (.ref 44), en P "BadRing" 245 (.ref 56), en P "BadTexts" 261 (.ref 68), en P "BadStep" 277 (.ref 80), en P "NotNow" 293 (.ref 92), en P "NoLetter" 309 (.ref 104), en P "MOST_WINDOW" 313 (.int (20) 312), en P "MOST_BACK" 315 (.int (20) 314), en P "MOST_RING" 317 (.int (200) 316), en P "MOST_TEXTS" 319 (.int (400) 318), en P "MOST_SIGNS" 321 (.int (40) 320), en P "is_among" 330 (.ref 113), en P "are_bounds" 337 (.ref 120), en P "need_bounds" 344 (.ref 127), en P "need_ring" 351 (.ref 134), en P "need_texts" 359 (.ref 141), en P "least_ring" 366 (.ref 148), en P "Post" 428 (.ref 193), en P "Sender" 490 (.ref 235), en P "Taker" 555 (.ref 284), en P "WORDS" 561 (.ref 289), en P "MOST_NUMBER" 563 (.int (999999) 562), en P "is_step" 570 (.ref 296), en P "need_step" 577 (.ref 303), en P "Run" 672 (.ref 367)]⟩ 36), ⟨[]⟩⟩) (nN (boot_o_7 P) (nN (dQ P) (nN (jU P) (nN (zO) (nN (gC P) (lN (zO)) .nil) (nN (jk P) (lN (zO)) .nil)) (nN (kq P) (nN (tT []) (lN (qa P)) .nil) (nN (mX P) (lN (tT [])) .nil))) (nN (fc P) (nN (gT P) (nN (zO) (lN (tT [])) .nil) (nN (jl P) (lN (tT [])) .nil)) (nN (gc P) (nN (hJ P) (lN (ng P)) .nil) (nN (kJ P) (lN (qd P)) .nil)))) (nN (eV P) (nN (fq P) (nN (gM P) (nN (tT []) (lN (lf P)) .nil) (nN (lI P) (lN (tT [(sV "self" 613)])) .nil)) (nN (fw P) (nN (jO P) (lN (mI P)) .nil) (nN (jK P) (lN (zO)) .nil))) (nN (fN P) (nN (zO) (nN (lK P) (lN (pu P)) .nil) (nN (tT []) (lN (sE P)) .nil)) (nN (fW P) (nN (jt P) (lN (tT [])) .nil) (lN (tT [])))))) (nN (dG P) (nN (eE P) (nN (eQ P) (nN (fF P) (nN (tT []) (lN (lL P)) .nil) (nN (iI P) (lN (pf P)) .nil)) (nN (zO) (nN (tT []) (lN (zO)) .nil) (nN (zO) (lN (rk P)) .nil))) (nN (zO) (nN (jf P) (nN (iC P) (lN (tT [])) .nil) (nN (lu P) (lN (tT [])) .nil)) (nN (zO) (nN (jI P) (lN (tT [])) .nil) (nN (tT []) (lN (rR P)) .nil)))) (nN (eH P) (nN (eR P) (nN (zO) (nN (iA P) (lN (kL P)) .nil) (nN (kO P) (lN (pM P)) .nil)) (nN (tT []) (nN (zO) (lN (tT [(sV "thing" 574)])) .nil) (nN (jE P) (lN (pL P)) .nil))) (nN (gS P) (nN (je P) (nN (kP P) (lN (nD P)) .nil) (nN (tT []) (lN (zO)) .nil)) (nN (gE P) (nN (tT []) (lN (rO P)) .nil) (lN (qk P))))))) (nN (boot_o_5 P) (nN (boot_o_9 P) (nN (dT P) (nN (fh P) (nN (ie P) (nN (zO) (lN (tT [])) .nil) (nN (jF P) (lN (tT [])) .nil)) (nN (lX P) (nN (jz P) (lN (mC P)) .nil) (nN (kS P) (lN (tT [(sV "self" 646)])) .nil))) (nN (gX P) (nN (jj P) (nN (tT []) (lN (nF P)) .nil) (nN (mT P) (lN (oS P)) .nil)) (nN (gJ P) (nN (tT []) (lN (sC P)) .nil) (nN (oY P) (lN (oZ P)) .nil)))) (nN (eK P) (nN (fn P) (nN (iF P) (nN (gK P) (lN (mF P)) .nil) (nN (tT []) (lN (sv P)) .nil)) (nN (fR P) (nN (ik P) (lN (tT [])) .nil) (nN (jq P) (lN (tT [])) .nil))) (nN (gU P) (nN (jV P) (nN (lQ P) (lN (nE P)) .nil) (nN (kR P) (lN (pG P)) .nil)) (nN (tT []) (nN (zO) (lN (po P)) .nil) (lN (mr P)))))) (nN (dI P) (nN (eN P) (nN (fI P) (nN (iJ P) (nN (gG P) (lN (tT [])) .nil) (nN (jv P) (lN (tT [])) .nil)) (nN (ic P) (nN (io P) (lN (tT [])) .nil) (nN (tT []) (lN (oQ P)) .nil))) (nN (hN P) (nN (lS P) (nN (tT []) (lN (tT [(sV "self" 539)])) .nil) (nN (zO) (lN (pX P)) .nil)) (nN (tT []) (nN (lz P) (lN (rL P)) .nil) (lN (pJ P))))) (nN (dX P) (nN (eX P) (nN (hX P) (nN (gI P) (lN (zO)) .nil) (nN (tT []) (lN (zO)) .nil)) (nN (fA P) (nN (tT []) (lN (pI P)) .nil) (nN (jG P) (lN (qo P)) .nil))) (nN (iD P) (nN (kh P) (nN (zO) (lN (nA P)) .nil) (nN (lM P) (lN (pq P)) .nil)) (nN (iN P) (nN (jp P) (lN (oU P)) .nil) (lN (mS P)))))))) (nN (boot_o_2 P) (nN (boot_o_4 P) (nN (boot_o_8 P) (nN (eA P) (nN (eD P) (nN (iQ P) (nN (tT []) (lN (mt P)) .nil) (nN (jN P) (lN (pg P)) .nil)) (nN (lY P) (nN (kC P) (lN (pr P)) .nil) (nN (kM P) (lN (zO)) .nil))) (nN (gP P) (nN (iM P) (nN (iu P) (lN (pk P)) .nil) (nN (tT []) (lN (sq P)) .nil)) (nN (gx P) (nN (jH P) (lN (tT [])) .nil) (nN (tT []) (lN (ph P)) .nil)))) (nN (eJ P) (nN (fj P) (nN (hU P) (nN (zO) (lN (tT [])) .nil) (nN (lP P) (lN (tT [])) .nil)) (nN (fC P) (nN (hZ P) (lN (mQ P)) .nil) (nN (jC P) (lN (pi P)) .nil))) (nN (fH P) (nN (ki P) (nN (tT []) (lN (nK P)) .nil) (nN (nt P) (lN (qn P)) .nil)) (nN (gm P) (nN (tT []) (lN (zO)) .nil) (lN (zO)))))) (nN (⟨.none, none, (.fields ⟨[(.int (1) 0), (.int (0) 0), (.ref 20), (.int (5) 0), (.int (0) 0), (.ref 27), (.int (7) 0), (.int (0) 0), (.ref 40), (.int (9) 0), (.int (0) 0), (.ref 52), (.int (11) 0), (.int (0) 0), (.ref 64), (.int (13) 0), (.int (0) 0), (.ref 76), (.int (15) 0), (.int (0) 0), (.ref 88), (.int (17) 0), (.int (0) 0), (.ref 100), (.int (25) 0), (.int (0) 0), (.ref 112), (.int (27) 0), (.int (0) 0), (.ref 119), (.int (33) 0), (.int (0) 0), (.ref 126), (.int (36) 0), (.int (0) 0), (.ref 133), (.int (39) 0), (.int (0) 0), (.ref 140), (.int (45) 0), (.int (0) 0), (.ref 147), (.int (49) 0), (.int (0) 0), (.ref 154), (.int (70) 0), (.int (0) 0), (.ref 203), (.int (94) 0), (.int (0) 0), (.ref 245), (.int (123) 0), (.int (0) 0), (.ref 295), (.int (127) 0), (.int (0) 0), (.ref 302), (.int (130) 0), (.int (0) 0), (.ref 309)]⟩), ⟨[]⟩⟩) (nN (dR P) (nN (eZ P) (nN (fP P) (nN (gL P) (lN (lJ P)) .nil) (nN (jP P) (lN (pZ P)) .nil)) (nN (fT P) (nN (zO) (lN (tT [(sV "thing" 567)])) .nil) (nN (js P) (lN (oV P)) .nil))) (nN (gW P) (nN (jX P) (nN (iR P) (lN (zO)) .nil) (nN (tT []) (lN (zO)) .nil)) (nN (fX P) (nN (tT []) (lN (rI P)) .nil) (lN (ql P))))) (nN (ei P) (nN (eO P) (nN (iB P) (nN (gy P) (lN (tT [])) .nil) (nN (kT P) (lN (tT [])) .nil)) (nN (zO) (nN (iz P) (lN (tT [])) .nil) (nN (jy P) (lN (pQ P)) .nil))) (nN (ir P) (nN (ji P) (nN (tT []) (lN (mE P)) .nil) (nN (zO) (lN (rl P)) .nil)) (nN (tT []) (nN (kI P) (lN (oR P)) .nil) (lN (mP P))))))) (nN (boot_o_6 P) (nN (boot_o_10 P) (nN (dU P) (nN (eu P) (nN (fM P) (nN (fy P) (lN (mR P)) .nil) (nN (ig P) (lN (td P)) .nil)) (nN (tT []) (nN (iP P) (lN (tT [])) .nil) (nN (tT []) (lN (tT [])) .nil))) (nN (tT []) (nN (jg P) (nN (jn P) (lN (nJ P)) .nil) (nN (lO P) (lN (pH P)) .nil)) (nN (tT []) (nN (zO) (lN (rQ P)) .nil) (nN (pN P) (lN (qZ P)) .nil)))) (nN (ez P) (nN (eI P) (nN (tT []) (nN (tT []) (lN (kW P)) .nil) (nN (lH P) (lN (pv P)) .nil)) (nN (gq P) (nN (tT []) (lN (zO)) .nil) (nN (jm P) (lN (sM P)) .nil))) (nN (gQ P) (nN (tT []) (nN (lq P) (lN (nq P)) .nil) (nN (kY P) (lN (tT [])) .nil)) (nN (zO) (nN (jQ P) (lN (tT [])) .nil) (lN (tT [])))))) (nN (dK P) (nN (eM P) (nN (fE P) (nN (ip P) (nN (fZ P) (lN (zO)) .nil) (nN (tT []) (lN (zO)) .nil)) (nN (tT []) (nN (tT []) (lN (qp P)) .nil) (nN (kK P) (lN (tT [])) .nil))) (nN (tT []) (nN (tT []) (nN (lm P) (lN (tT [])) .nil) (nN (lh P) (lN (tT [])) .nil)) (nN (jw P) (nN (jA P) (lN (rJ P)) .nil) (lN (pO P))))) (nN (dW P) (nN (fg P) (nN (tT []) (nN (tT []) (lN (kD P)) .nil) (nN (zO) (lN (pA P)) .nil)) (nN (tT []) (nN (jr P) (lN (mL P)) .nil) (nN (lC P) (lN (pT P)) .nil))) (nN (tT []) (nN (jT P) (nN (ju P) (lN (mG P)) .nil) (nN (tT []) (lN (qg P)) .nil)) (nN (gf P) (nN (jL P) (lN (tT [])) .nil) (lN (tT []))))))))), 372, lf0, ⟨[]⟩, ⟨0, 0, 0, 0⟩, 673, os⟩ : Params → SharedT) w.params
noncomputable def zt : List Stmt := ((behindTheImports pw).drop 31).take 1
noncomputable def zl (w : World) : Prop := (fun os => segRunT treeTable pw w m0 ann 1 455 (S12 w os) (piecesOf zt env cE ⟨127, 0, 129, 54⟩ B)) = fun os => some (Flow.next, S13 w os, cE, ⟨130, 0, 184, 20⟩)
theorem Dc (w : World) : zl w := by
  unfold zl
  rw [PySem.W.Fast.te10110043849684766642, PySem.W.Fast.te14364793385576792824]
  kernel_rfl
noncomputable def vF (P : Params) : Obj := ⟨(.type "dict"), none, (.dict ⟨[en P "__name__" 165 (sV "law_uf020020_08" 673), en P "__doc__" 166 .none, en P "__package__" 167 .none, en P "__loader__" 168 (.builtin "__main__.__loader__#opaque"), en P "__spec__" 169 .none, en P "__annotations__" 170 (.ref 6), en P "__builtins__" 171 (.ref 4), en P "__file__" 173 (sV "/claim/cut.py" 172), en P "__cached__" 174 .none, en P "_wall" 193 (.ref 21), en P "PostError" 213 (.ref 31), en P "BadBounds" 229 (.ref 44), en P "BadRing" 245 (.ref 56), en P "BadTexts" 261 (.ref 68), en P "BadStep" 277 (.ref 80), en P "NotNow" 293 (.ref 92), en P "NoLetter" 309 (.ref 104), en P "MOST_WINDOW" 313 (.int (20) 312), en P "MOST_BACK" 315 (.int (20) 314), en P "MOST_RING" 317 (.int (200) 316), en P "MOST_TEXTS" 319 (.int (400) 318), en P "MOST_SIGNS" 321 (.int (40) 320), en P "is_among" 330 (.ref 113), en P "are_bounds" 337 (.ref 120), en P "need_bounds" 344 (.ref 127), en P "need_ring" 351 (.ref 134), en P "need_texts" 359 (.ref 141), en P "least_ring" 366 (.ref 148), en P "Post" 428 (.ref 193), en P "Sender" 490 (.ref 235), en P "Taker" 555 (.ref 284), en P "WORDS" 561 (.ref 289), en P "MOST_NUMBER" 563 (.int (999999) 562), en P "is_step" 570 (.ref 296), en P "need_step" 577 (.ref 303), en P "Run" 672 (.ref 367), en P "_law_at" 682 (.ref 378), en P "_law_mixed" 690 (.ref 385), en P "_law_whole" 697 (.ref 392), en P "_law_bounds" 709 (.ref 399), en P "_law_texts" 715 (.ref 404), en P "_law_straight" 725 (.ref 411), en P "_law_said" 733 (.ref 418), en P "_law_step" 747 (.ref 425), en P "_law_alike" 753 (.ref 430), en P "_law_both" 764 (.ref 437), en P "law" 770 (.ref 442)]⟩ 47), ⟨[]⟩⟩
noncomputable def wt (P : Params) : Obj := ⟨.none, none, (.fields ⟨[(.int (1) 0), (.int (0) 0), (.ref 20), (.int (5) 0), (.int (0) 0), (.ref 27), (.int (7) 0), (.int (0) 0), (.ref 40), (.int (9) 0), (.int (0) 0), (.ref 52), (.int (11) 0), (.int (0) 0), (.ref 64), (.int (13) 0), (.int (0) 0), (.ref 76), (.int (15) 0), (.int (0) 0), (.ref 88), (.int (17) 0), (.int (0) 0), (.ref 100), (.int (25) 0), (.int (0) 0), (.ref 112), (.int (27) 0), (.int (0) 0), (.ref 119), (.int (33) 0), (.int (0) 0), (.ref 126), (.int (36) 0), (.int (0) 0), (.ref 133), (.int (39) 0), (.int (0) 0), (.ref 140), (.int (45) 0), (.int (0) 0), (.ref 147), (.int (49) 0), (.int (0) 0), (.ref 154), (.int (70) 0), (.int (0) 0), (.ref 203), (.int (94) 0), (.int (0) 0), (.ref 245), (.int (123) 0), (.int (0) 0), (.ref 295), (.int (127) 0), (.int (0) 0), (.ref 302), (.int (130) 0), (.int (0) 0), (.ref 309), (.int (186) 0), (.int (0) 0), (.ref 377), (.int (190) 0), (.int (0) 0), (.ref 384), (.int (192) 0), (.int (0) 0), (.ref 391), (.int (194) 0), (.int (0) 0), (.ref 398), (.int (209) 0), (.int (0) 0), (.ref 403), (.int (218) 0), (.int (0) 0), (.ref 410), (.int (223) 0), (.int (0) 0), (.ref 417), (.int (230) 0), (.int (0) 0), (.ref 424), (.int (239) 0), (.int (0) 0), (.ref 429), (.int (255) 0), (.int (0) 0), (.ref 436), (.int (264) 0), (.int (0) 0), (.ref 441)]⟩), ⟨[]⟩⟩
noncomputable def rx (P : Params) : Obj := tT [(sV "_law_script" 678), (sV "_law_k" 679)]
noncomputable def rS (P : Params) : Obj := cO "_law_at" 675 "_law_at" 676 677 186 2 3 372 true 181 373 .none (.ref 374) (.ref 375) (.ref 376) 680 186 681
noncomputable def sI (P : Params) : Obj := gO "_law_at" "_law_at" pw.main.body 33 (sV "law_uf020020_08" 673) 377
noncomputable def sA (P : Params) : Obj := tT [(sV "_law_cell" 686), (sV "_law_k" 687)]
noncomputable def tc (P : Params) : Obj := cO "_law_mixed" 683 "_law_mixed" 684 685 190 2 3 379 true 181 380 .none (.ref 381) (.ref 382) (.ref 383) 688 190 689
noncomputable def rH (P : Params) : Obj := gO "_law_mixed" "_law_mixed" pw.main.body 34 (sV "law_uf020020_08" 673) 384
noncomputable def vN (P : Params) : Obj := cO "_law_whole" 691 "_law_whole" 692 693 192 1 3 386 true 181 387 .none (.ref 388) (.ref 389) (.ref 390) 695 192 696
noncomputable def wB (P : Params) : Obj := gO "_law_whole" "_law_whole" pw.main.body 35 (sV "law_uf020020_08" 673) 391
noncomputable def rM (P : Params) : Obj := tT [(sV "_law_script" 701), (sV "_law_one" 702), (sV "_law_two" 703), (sV "_law_window" 704), (sV "_law_delay" 705), (sV "_law_back" 706)]
noncomputable def rX (P : Params) : Obj := cO "_law_bounds" 698 "_law_bounds" 699 700 194 1 3 393 true 181 394 .none (.ref 395) (.ref 396) (.ref 397) 707 194 708
noncomputable def rB (P : Params) : Obj := gO "_law_bounds" "_law_bounds" pw.main.body 36 (sV "law_uf020020_08" 673) 398
noncomputable def sj (P : Params) : Obj := cO "_law_texts" 710 "_law_texts" 711 712 209 3 3 400 true 181 401 .none .none .none (.ref 402) 713 209 714
noncomputable def te (P : Params) : Obj := gO "_law_texts" "_law_texts" pw.main.body 37 (sV "law_uf020020_08" 673) 403
noncomputable def ro (P : Params) : Obj := tT [(sV "_law_texts_here" 719), (sV "_law_first" 720), (sV "_law_steps" 721), (sV "_law_k" 722)]
noncomputable def rt (P : Params) : Obj := cO "_law_straight" 716 "_law_straight" 717 718 218 2 3 405 true 181 406 .none (.ref 407) (.ref 408) (.ref 409) 723 218 724
noncomputable def sH (P : Params) : Obj := gO "_law_straight" "_law_straight" pw.main.body 38 (sV "law_uf020020_08" 673) 410
noncomputable def rK (P : Params) : Obj := tT [(sV "_law_run" 729), (sV "_law_step_here" 730)]
noncomputable def rz (P : Params) : Obj := cO "_law_said" 726 "_law_said" 727 728 223 2 3 412 true 181 413 .none (.ref 414) (.ref 415) (.ref 416) 731 223 732
noncomputable def rD (P : Params) : Obj := gO "_law_said" "_law_said" pw.main.body 39 (sV "law_uf020020_08" 673) 417
noncomputable def ti (P : Params) : Obj := tT [(sV "_law_run" 737), (sV "_law_bounds_here" 738), (sV "_law_cell" 739), (sV "_law_base" 740), (sV "_law_top" 741), (sV "_law_want" 742), (sV "_law_more" 743), (sV "_law_rows" 744)]
noncomputable def rA (P : Params) : Obj := cO "_law_step" 734 "_law_step" 735 736 230 3 3 419 true 181 420 .none (.ref 421) (.ref 422) (.ref 423) 745 230 746
noncomputable def rq (P : Params) : Obj := gO "_law_step" "_law_step" pw.main.body 40 (sV "law_uf020020_08" 673) 424
noncomputable def tm (P : Params) : Obj := cO "_law_alike" 748 "_law_alike" 749 750 239 5 3 426 true 181 427 .none .none .none (.ref 428) 751 239 752
noncomputable def sK (P : Params) : Obj := gO "_law_alike" "_law_alike" pw.main.body 41 (sV "law_uf020020_08" 673) 429
noncomputable def sd (P : Params) : Obj := tT [(sV "_law_runs" 757), (sV "_law_step_here" 758), (sV "_law_sent" 759), (sV "_law_wants" 760), (sV "_law_found" 761)]
noncomputable def si (P : Params) : Obj := cO "_law_both" 754 "_law_both" 755 756 255 4 3 431 true 181 432 .none (.ref 433) (.ref 434) (.ref 435) 762 255 763
noncomputable def sY (P : Params) : Obj := gO "_law_both" "_law_both" pw.main.body 42 (sV "law_uf020020_08" 673) 436
noncomputable def to (P : Params) : Obj := cO "law" 765 "law" 766 767 264 1 3 438 true 181 439 .none .none .none (.ref 440) 768 264 769
noncomputable def sg (P : Params) : Obj := gO "law" "law" pw.main.body 43 (sV "law_uf020020_08" 673) 441
noncomputable def S14 (w : World) (os : OsState) : SharedT := (fun P => ⟨(nN (boot_o_0 P) (nN (boot_o_1 P) (nN (vF P) (nN (boot_o_7 P) (nN (dQ P) (nN (jU P) (nN (zO) (nN (gC P) (lN (zO)) (lN (fO "_law_mixed" "_law_mixed" pw.main.body 34))) (nN (jk P) (lN (zO)) .nil)) (nN (kq P) (nN (tT []) (lN (qa P)) (lN (tT []))) (nN (mX P) (lN (tT [])) .nil))) (nN (fc P) (nN (gT P) (nN (zO) (lN (tT [])) (lN (rB P))) (nN (jl P) (lN (tT [])) .nil)) (nN (gc P) (nN (hJ P) (lN (ng P)) (lN (tT []))) (nN (kJ P) (lN (qd P)) .nil)))) (nN (eV P) (nN (fq P) (nN (gM P) (nN (tT []) (lN (lf P)) (lN (vN P))) (nN (lI P) (lN (tT [(sV "self" 613)])) .nil)) (nN (fw P) (nN (jO P) (lN (mI P)) (lN (fO "_law_step" "_law_step" pw.main.body 40))) (nN (jK P) (lN (zO)) .nil))) (nN (fN P) (nN (zO) (nN (lK P) (lN (pu P)) (lN (ro P))) (nN (tT []) (lN (sE P)) .nil)) (nN (fW P) (nN (jt P) (lN (tT [])) (lN (zO))) (nN (tT []) (lN (tT [])) .nil))))) (nN (dG P) (nN (eE P) (nN (eQ P) (nN (fF P) (nN (tT []) (lN (lL P)) (lN (zO))) (nN (iI P) (lN (pf P)) .nil)) (nN (zO) (nN (tT []) (lN (zO)) (lN (tT []))) (nN (zO) (lN (rk P)) .nil))) (nN (zO) (nN (jf P) (nN (iC P) (lN (tT [])) (lN (sj P))) (nN (lu P) (lN (tT [])) .nil)) (nN (zO) (nN (jI P) (lN (tT [])) (lN (fO "_law_both" "_law_both" pw.main.body 42))) (nN (tT []) (lN (rR P)) .nil)))) (nN (eH P) (nN (eR P) (nN (zO) (nN (iA P) (lN (kL P)) (lN (rM P))) (nN (kO P) (lN (pM P)) .nil)) (nN (tT []) (nN (zO) (lN (tT [(sV "thing" 574)])) (lN (zO))) (nN (jE P) (lN (pL P)) .nil))) (nN (gS P) (nN (je P) (nN (kP P) (lN (nD P)) (lN (sH P))) (nN (tT []) (lN (zO)) .nil)) (nN (gE P) (nN (tT []) (lN (rO P)) .nil) (nN (qk P) (lN (tT [])) .nil)))))) (nN (boot_o_5 P) (nN (boot_o_9 P) (nN (dT P) (nN (fh P) (nN (ie P) (nN (zO) (lN (tT [])) (lN (rH P))) (nN (jF P) (lN (tT [])) .nil)) (nN (lX P) (nN (jz P) (lN (mC P)) (lN (rz P))) (nN (kS P) (lN (tT [(sV "self" 646)])) .nil))) (nN (gX P) (nN (jj P) (nN (tT []) (lN (nF P)) (lN (zO))) (nN (mT P) (lN (oS P)) .nil)) (nN (gJ P) (nN (tT []) (lN (sC P)) (lN (sd P))) (nN (oY P) (lN (oZ P)) .nil)))) (nN (eK P) (nN (fn P) (nN (iF P) (nN (gK P) (lN (mF P)) (lN (tT []))) (nN (tT []) (lN (sv P)) .nil)) (nN (fR P) (nN (ik P) (lN (tT [])) (lN (rq P))) (nN (jq P) (lN (tT [])) .nil))) (nN (gU P) (nN (jV P) (nN (lQ P) (lN (nE P)) (lN (fO "_law_straight" "_law_straight" pw.main.body 38))) (nN (kR P) (lN (pG P)) .nil)) (nN (tT []) (nN (zO) (lN (po P)) (lN (to P))) (nN (mr P) (lN (rS P)) .nil))))) (nN (dI P) (nN (eN P) (nN (fI P) (nN (iJ P) (nN (gG P) (lN (tT [])) (lN (tT []))) (nN (jv P) (lN (tT [])) .nil)) (nN (ic P) (nN (io P) (lN (tT [])) (lN (ti P))) (nN (tT []) (lN (oQ P)) .nil))) (nN (hN P) (nN (lS P) (nN (tT []) (lN (tT [(sV "self" 539)])) (lN (tT []))) (nN (zO) (lN (pX P)) .nil)) (nN (tT []) (nN (lz P) (lN (rL P)) (lN (sY P))) (nN (pJ P) (lN (zO)) .nil)))) (nN (dX P) (nN (eX P) (nN (hX P) (nN (gI P) (lN (zO)) (lN (fO "_law_bounds" "_law_bounds" pw.main.body 36))) (nN (tT []) (lN (zO)) .nil)) (nN (fA P) (nN (tT []) (lN (pI P)) (lN (tm P))) (nN (jG P) (lN (qo P)) .nil))) (nN (iD P) (nN (kh P) (nN (zO) (lN (nA P)) (lN (zO))) (nN (lM P) (lN (pq P)) .nil)) (nN (iN P) (nN (jp P) (lN (oU P)) .nil) (nN (mS P) (lN (sA P)) .nil))))))) (nN (boot_o_2 P) (nN (boot_o_4 P) (nN (boot_o_8 P) (nN (eA P) (nN (eD P) (nN (iQ P) (nN (tT []) (lN (mt P)) (lN (tc P))) (nN (jN P) (lN (pg P)) .nil)) (nN (lY P) (nN (kC P) (lN (pr P)) (lN (fO "_law_said" "_law_said" pw.main.body 39))) (nN (kM P) (lN (zO)) .nil))) (nN (gP P) (nN (iM P) (nN (iu P) (lN (pk P)) (lN (tT []))) (nN (tT []) (lN (sq P)) .nil)) (nN (gx P) (nN (jH P) (lN (tT [])) (lN (zO))) (nN (tT []) (lN (ph P)) .nil)))) (nN (eJ P) (nN (fj P) (nN (hU P) (nN (zO) (lN (tT [])) (lN (wB P))) (nN (lP P) (lN (tT [])) .nil)) (nN (fC P) (nN (hZ P) (lN (mQ P)) (lN (rA P))) (nN (jC P) (lN (pi P)) .nil))) (nN (fH P) (nN (ki P) (nN (tT []) (lN (nK P)) (lN (tT []))) (nN (nt P) (lN (qn P)) .nil)) (nN (gm P) (nN (tT []) (lN (zO)) (lN (fO "law" "law" pw.main.body 43))) (nN (zO) (lN (fO "_law_at" "_law_at" pw.main.body 33)) .nil))))) (nN (wt P) (nN (dR P) (nN (eZ P) (nN (fP P) (nN (gL P) (lN (lJ P)) (lN (tT [(sV "_law_thing" 694)]))) (nN (jP P) (lN (pZ P)) .nil)) (nN (fT P) (nN (zO) (lN (tT [(sV "thing" 567)])) (lN (zO))) (nN (js P) (lN (oV P)) .nil))) (nN (gW P) (nN (jX P) (nN (iR P) (lN (zO)) (lN (te P))) (nN (tT []) (lN (zO)) .nil)) (nN (fX P) (nN (tT []) (lN (rI P)) (lN (si P))) (nN (ql P) (lN (tT [])) .nil)))) (nN (ei P) (nN (eO P) (nN (iB P) (nN (gy P) (lN (tT [])) (lN (tT []))) (nN (kT P) (lN (tT [])) .nil)) (nN (zO) (nN (iz P) (lN (tT [])) (lN (fO "_law_alike" "_law_alike" pw.main.body 41))) (nN (jy P) (lN (pQ P)) .nil))) (nN (ir P) (nN (ji P) (nN (tT []) (lN (mE P)) (lN (tT []))) (nN (zO) (lN (rl P)) .nil)) (nN (tT []) (nN (kI P) (lN (oR P)) .nil) (nN (mP P) (lN (zO)) .nil)))))) (nN (boot_o_6 P) (nN (boot_o_10 P) (nN (dU P) (nN (eu P) (nN (fM P) (nN (fy P) (lN (mR P)) (lN (tT []))) (nN (ig P) (lN (td P)) .nil)) (nN (tT []) (nN (iP P) (lN (tT [])) (lN (rD P))) (nN (tT []) (lN (tT [])) .nil))) (nN (tT []) (nN (jg P) (nN (jn P) (lN (nJ P)) (lN (fO "_law_texts" "_law_texts" pw.main.body 37))) (nN (lO P) (lN (pH P)) .nil)) (nN (tT []) (nN (zO) (lN (rQ P)) (lN (tT []))) (nN (pN P) (lN (qZ P)) .nil)))) (nN (ez P) (nN (eI P) (nN (tT []) (nN (tT []) (lN (kW P)) (lN (zO))) (nN (lH P) (lN (pv P)) .nil)) (nN (gq P) (nN (tT []) (lN (zO)) (lN (tT []))) (nN (jm P) (lN (sM P)) .nil))) (nN (gQ P) (nN (tT []) (nN (lq P) (lN (nq P)) (lN (rt P))) (nN (kY P) (lN (tT [])) .nil)) (nN (zO) (nN (jQ P) (lN (tT [])) (lN (sg P))) (nN (tT []) (lN (sI P)) .nil))))) (nN (dK P) (nN (eM P) (nN (fE P) (nN (ip P) (nN (fZ P) (lN (zO)) (lN (fO "_law_whole" "_law_whole" pw.main.body 35))) (nN (tT []) (lN (zO)) .nil)) (nN (tT []) (nN (tT []) (lN (qp P)) (lN (tT []))) (nN (kK P) (lN (tT [])) .nil))) (nN (tT []) (nN (tT []) (nN (lm P) (lN (tT [])) (lN (zO))) (nN (lh P) (lN (tT [])) .nil)) (nN (jw P) (nN (jA P) (lN (rJ P)) (lN (tT []))) (nN (pO P) (lN (rx P)) .nil)))) (nN (dW P) (nN (fg P) (nN (tT []) (nN (tT []) (lN (kD P)) (lN (rX P))) (nN (zO) (lN (pA P)) .nil)) (nN (tT []) (nN (jr P) (lN (mL P)) (lN (sK P))) (nN (lC P) (lN (pT P)) .nil))) (nN (tT []) (nN (jT P) (nN (ju P) (lN (mG P)) (lN (rK P))) (nN (tT []) (lN (qg P)) .nil)) (nN (gf P) (nN (jL P) (lN (tT [])) .nil) (nN (tT []) (lN (tT [])) .nil)))))))), 443, lf0, ⟨[]⟩, ⟨0, 0, 0, 0⟩, 771, os⟩ : Params → SharedT) w.params
noncomputable def yT : List Stmt := ((behindTheImports pw).drop 32).take 12
noncomputable def zd (w : World) : Prop := (fun os => segRunT treeTable pw w m0 ann 1 342 (S13 w os) (piecesOf yT env cE ⟨130, 0, 184, 20⟩ B)) = fun os => some (Flow.next, S14 w os, cE, ⟨264, 0, 286, 70⟩)
theorem CM (w : World) : zd w := by
  unfold zd
  rw [PySem.W.Fast.te10110043849684766642, PySem.W.Fast.te14364793385576792824]
  kernel_rfl
noncomputable def Sfh (P : Params) : Heap := ⟨⟨[boot_o_0 P, boot_o_1 P, boot_o_2 P, vF P, boot_o_4 P, boot_o_5 P, boot_o_6 P, boot_o_7 P, boot_o_8 P, boot_o_9 P, boot_o_10 P, dG P, wt P, dI P, dK P, dQ P, eA P, dT P, dU P, eE P, dR P, eN P, eM P, eV P, eJ P, eK P, ez P, eH P, ei P, dX P, dW P, jU P, eD P, fh P, eu P, eQ P, eZ P, fI P, fE P, fq P, fj P, fn P, eI P, eR P, eO P, eX P, fg P, fc P, gP P, gX P, (tT []), (zO), gW P, hN P, (tT []), fN P, fH P, gU P, gQ P, gS P, ir P, iD P, (tT []), (zO), iQ P, ie P, fM P, fF P, fP P, iJ P, ip P, gM P, hU P, iF P, (tT []), (zO), iB P, hX P, (tT []), gT P, iM P, jj P, jg P, jf P, jX P, lS P, (tT []), (zO), ki P, jV P, (tT []), je P, ji P, kh P, jT P, kq P, lY P, lX P, (tT []), (zO), fT P, ic P, (tT []), fw P, fC P, fR P, gq P, (tT []), (zO), fA P, (tT []), gc P, gx P, gJ P, (tT []), (zO), fX P, (tT []), jw P, fW P, gm P, (tT []), (zO), gE P, (tT []), iN P, gf P, gC P, (tT []), (zO), fy P, (tT []), gL P, gG P, fZ P, (tT []), (zO), gK P, (tT []), iA P, gy P, gI P, (tT []), (zO), iu P, (tT []), jn P, iC P, iR P, (tT []), lm P, lK P, (tT []), lQ P, lq P, kP P, (tT []), (zO), ju P, (tT []), kC P, jz P, iP P, (tT []), (zO), io P, (tT []), jO P, hZ P, ik P, (tT []), (zO), iz P, (tT []), jr P, hJ P, jH P, (tT []), (zO), jI P, (tT []), lz P, jA P, jt P, (tT []), (zO), jQ P, (tT []), kI P, jp P, jL P, jk P, jN P, jF P, ig P, iI P, jP P, jv P, (tT []), lI P, lP P, (tT []), lH P, kO P, kT P, (tT []), (zO), jl P, (tT []), mT P, lO P, lu P, (tT []), (zO), lh P, (tT []), nt P, kR P, kY P, (tT []), (zO), lM P, (tT []), mX P, kM P, kS P, (tT []), (zO), js P, (tT []), kK P, jK P, jC P, jq P, jm P, jE P, jy P, jG P, lC P, kJ P, (tT []), oY P, pN P, (tT []), ql P, pJ P, pO P, (tT []), (zO), mr P, (tT []), qk P, mP P, mS P, (tT []), (zO), mt P, (tT []), mR P, lL P, lJ P, (tT []), (zO), lf P, (tT []), mF P, kW P, kL P, (tT []), (zO), kD P, (tT []), pk P, nF P, nJ P, (tT []), (zO), (tT [(sV "self" 539)]), (tT []), pu P, nK P, nE P, nq P, nD P, mE P, nA P, mG P, qa P, pr P, mC P, (tT []), (zO), (tT [(sV "thing" 567)]), (tT []), qp P, mI P, mQ P, (tT []), (zO), (tT [(sV "thing" 574)]), (tT []), pI P, mL P, ng P, (tT []), sC P, rQ P, (tT []), rI P, rL P, rJ P, (tT []), (zO), po P, (tT []), rO P, oR P, oU P, (tT []), (zO), pg P, (tT []), td P, pf P, pZ P, (tT []), (zO), (tT [(sV "self" 613)]), (tT []), sv P, pv P, pM P, (tT []), (zO), pA P, (tT []), sq P, oS P, pH P, (tT []), (zO), pX P, (tT []), sE P, qn P, pG P, (tT []), (zO), rl P, pq P, qg P, (tT []), (zO), (tT [(sV "self" 646)]), (tT []), rk P, oV P, oQ P, (tT []), (zO), pi P, (tT []), sM P, pL P, pQ P, qo P, pT P, qd P, ph P, oZ P, qZ P, rR P, (tT []), (zO), rx P, (tT []), (fO "_law_at" "_law_at" pw.main.body 33), rS P, sI P, (tT []), (zO), sA P, (tT []), (fO "_law_mixed" "_law_mixed" pw.main.body 34), tc P, rH P, (tT []), (zO), (tT [(sV "_law_thing" 694)]), (tT []), (fO "_law_whole" "_law_whole" pw.main.body 35), vN P, wB P, (tT []), (zO), rM P, (tT []), (fO "_law_bounds" "_law_bounds" pw.main.body 36), rX P, rB P, (tT []), (zO), (fO "_law_texts" "_law_texts" pw.main.body 37), sj P, te P, (tT []), (zO), ro P, (tT []), (fO "_law_straight" "_law_straight" pw.main.body 38), rt P, sH P, (tT []), (zO), rK P, (tT []), (fO "_law_said" "_law_said" pw.main.body 39), rz P, rD P, (tT []), (zO), ti P, (tT []), (fO "_law_step" "_law_step" pw.main.body 40), rA P, rq P, (tT []), (zO), (fO "_law_alike" "_law_alike" pw.main.body 41), tm P, sK P, (tT []), (zO), sd P, (tT []), (fO "_law_both" "_law_both" pw.main.body 42), si P, sY P, (tT []), (zO), (fO "law" "law" pw.main.body 43), to P, sg P]⟩, lf0⟩
noncomputable def Sf (w : World) (os : OsState) : Shared := ⟨Sfh w.params, ⟨[]⟩, ⟨0, 0, 0, 0⟩, 771, os⟩
noncomputable def Co (w : World) : Prop := (fun os => topRun treeTable pw w m0 ann 2 (S14 w os).abs ⟨doneF .next, cE, ⟨264, 0, 286, 70⟩, B⟩) = fun os => some (Sf w os)
theorem fin (w : World) : Co w := by
  unfold Co
  rw [PySem.W.Fast.te14082659384304107361, PySem.W.Fast.te14364793385576792824]
  kernel_rfl
noncomputable def K (P : Params) : Frag := [(2, boot_o_2 P), (3, vF P), (15, dQ P), (17, dT P), (18, dU P), (20, dR P), (21, eN P), (22, eM P), (29, dX P), (30, dW P), (31, jU P), (32, eD P), (35, eQ P), (42, eI P), (43, eR P), (44, eO P), (47, fc P), (54, (tT [])), (55, fN P), (56, fH P), (59, gS P), (66, fM P), (67, fF P), (68, fP P), (71, gM P), (78, (tT [])), (79, gT P), (80, iM P), (83, jf P), (90, (tT [])), (91, je P), (92, ji P), (95, kq P), (102, (tT [])), (103, fw P), (104, fC P), (107, (tT [])), (109, fA P), (110, (tT [])), (112, gx P), (113, gJ P), (114, (tT [])), (116, fX P), (117, (tT [])), (119, fW P), (120, gm P), (121, (tT [])), (123, gE P), (124, (tT [])), (126, gf P), (127, gC P), (128, (tT [])), (130, fy P), (131, (tT [])), (133, gG P), (134, fZ P), (135, (tT [])), (137, gK P), (138, (tT [])), (140, gy P), (141, gI P), (142, (tT [])), (144, iu P), (145, (tT [])), (147, iC P), (148, iR P), (156, (tT [])), (158, ju P), (159, (tT [])), (161, jz P), (162, iP P), (163, (tT [])), (165, io P), (166, (tT [])), (168, hZ P), (169, ik P), (170, (tT [])), (172, iz P), (173, (tT [])), (175, hJ P), (176, jH P), (177, (tT [])), (179, jI P), (180, (tT [])), (182, jA P), (183, jt P), (184, (tT [])), (186, jQ P), (187, (tT [])), (189, jp P), (190, jL P), (191, jk P), (192, jN P), (193, jF P), (194, ig P), (195, iI P), (205, (tT [])), (207, jl P), (208, (tT [])), (210, lO P), (211, lu P), (212, (tT [])), (214, lh P), (215, (tT [])), (217, kR P), (218, kY P), (219, (tT [])), (221, lM P), (222, (tT [])), (224, kM P), (225, kS P), (226, (tT [])), (228, js P), (229, (tT [])), (231, jK P), (232, jC P), (233, jq P), (234, jm P), (235, jE P), (236, jy P), (237, jG P), (247, (tT [])), (249, mr P), (250, (tT [])), (252, mP P), (253, mS P), (254, (tT [])), (256, mt P), (257, (tT [])), (259, lL P), (260, lJ P), (261, (tT [])), (263, lf P), (264, (tT [])), (266, kW P), (267, kL P), (268, (tT [])), (270, kD P), (271, (tT [])), (273, nF P), (274, nJ P), (275, (tT [])), (277, (tT [(sV "self" 539)])), (278, (tT [])), (280, nK P), (281, nE P), (282, nq P), (283, nD P), (284, mE P), (285, nA P), (286, mG P), (289, mC P), (290, (tT [])), (292, (tT [(sV "thing" 567)])), (293, (tT [])), (295, mI P), (296, mQ P), (297, (tT [])), (299, (tT [(sV "thing" 574)])), (300, (tT [])), (302, mL P), (303, ng P), (311, (tT [])), (313, po P), (314, (tT [])), (316, oR P), (317, oU P), (318, (tT [])), (320, pg P), (321, (tT [])), (323, pf P), (324, pZ P), (325, (tT [])), (327, (tT [(sV "self" 613)])), (328, (tT [])), (330, pv P), (331, pM P), (332, (tT [])), (334, pA P), (335, (tT [])), (337, oS P), (338, pH P), (339, (tT [])), (341, pX P), (342, (tT [])), (344, qn P), (345, pG P), (346, (tT [])), (349, pq P), (350, qg P), (351, (tT [])), (353, (tT [(sV "self" 646)])), (354, (tT [])), (356, oV P), (357, oQ P), (358, (tT [])), (360, pi P), (361, (tT [])), (363, pL P), (364, pQ P), (365, qo P), (366, pT P), (367, qd P), (368, ph P), (369, oZ P), (372, (tT [])), (374, rx P), (375, (tT [])), (377, rS P), (378, sI P), (379, (tT [])), (381, sA P), (382, (tT [])), (384, tc P), (385, rH P), (393, (tT [])), (395, rM P), (396, (tT [])), (398, rX P), (399, rB P), (400, (tT [])), (403, sj P), (404, te P), (405, (tT [])), (407, ro P), (408, (tT [])), (410, rt P), (411, sH P), (412, (tT [])), (414, rK P), (415, (tT [])), (417, rz P), (418, rD P), (419, (tT [])), (421, ti P), (422, (tT [])), (424, rA P), (425, rq P), (426, (tT [])), (429, tm P), (430, sK P), (431, (tT [])), (433, sd P), (434, (tT [])), (436, si P), (437, sY P), (438, (tT [])), (441, to P), (442, sg P)]
noncomputable def kas : List Addr := [2, 3, 15, 17, 18, 20, 21, 22, 29, 30, 31, 32, 35, 42, 43, 44, 47, 54, 55, 56, 59, 66, 67, 68, 71, 78, 79, 80, 83, 90, 91, 92, 95, 102, 103, 104, 107, 109, 110, 112, 113, 114, 116, 117, 119, 120, 121, 123, 124, 126, 127, 128, 130, 131, 133, 134, 135, 137, 138, 140, 141, 142, 144, 145, 147, 148, 156, 158, 159, 161, 162, 163, 165, 166, 168, 169, 170, 172, 173, 175, 176, 177, 179, 180, 182, 183, 184, 186, 187, 189, 190, 191, 192, 193, 194, 195, 205, 207, 208, 210, 211, 212, 214, 215, 217, 218, 219, 221, 222, 224, 225, 226, 228, 229, 231, 232, 233, 234, 235, 236, 237, 247, 249, 250, 252, 253, 254, 256, 257, 259, 260, 261, 263, 264, 266, 267, 268, 270, 271, 273, 274, 275, 277, 278, 280, 281, 282, 283, 284, 285, 286, 289, 290, 292, 293, 295, 296, 297, 299, 300, 302, 303, 311, 313, 314, 316, 317, 318, 320, 321, 323, 324, 325, 327, 328, 330, 331, 332, 334, 335, 337, 338, 339, 341, 342, 344, 345, 346, 349, 350, 351, 353, 354, 356, 357, 358, 360, 361, 363, 364, 365, 366, 367, 368, 369, 372, 374, 375, 377, 378, 379, 381, 382, 384, 385, 393, 395, 396, 398, 399, 400, 403, 404, 405, 407, 408, 410, 411, 412, 414, 415, 417, 418, 419, 421, 422, 424, 425, 426, 429, 430, 431, 433, 434, 436, 437, 438, 441, 442]
theorem AI : behindTheImports pw = (BA ++ (Cl ++ (Bc ++ (Bz ++ (BN ++ (Ch ++ (Ce ++ (Cd ++ (By ++ (AT ++ (zq ++ (zn ++ (zt ++ (yT ++ [])))))))))))))) := by kernel_rfl
noncomputable def DB : Nat := 12 + (1 + (225 + (214 + (214 + (214 + (214 + (214 + (386 + (69 + (359 + (326 + (386 + (59 + (455 + (342 + 2)))))))))))))))
theorem rest (w : World) (os : OsState) : topRun treeTable pw w m0 ann ((225 + (214 + (214 + (214 + (214 + (214 + (386 + (69 + (359 + (326 + (386 + (59 + (455 + (342 + 2))))))))))))))) (Sb w os).abs (restOf (behindTheImports pw) env cE ⟨0, 0, 0, 0⟩ B) = some (Sf w os) := by
  rw [AI]
  exact (piece_app (segRun_of (congrFun (pc0 w) os)) (piece_app (segRun_of (congrFun (pc1 w) os)) (piece_app (segRun_of (congrFun (pc2 w) os)) (piece_app (segRun_of (congrFun (pc3 w) os)) (piece_app (segRun_of (congrFun (pc4 w) os)) (piece_app (segRun_of (congrFun (pc5 w) os)) (piece_app (segRun_of (congrFun (pc6 w) os)) (piece_app (segRun_of (congrFun (pc7 w) os)) (piece_app (segRun_of (congrFun (pc8 w) os)) (piece_app (segRun_of (congrFun (pc9 w) os)) (piece_app (segRun_of (congrFun (CO w) os)) (piece_app (segRun_of (congrFun (Dp w) os)) (piece_app (segRun_of (congrFun (Dc w) os)) (piece_app (segRun_of (congrFun (CM w) os)) (piece_nil (congrFun (fin w) os))))))))))))))))
theorem run (w : World) (os : OsState) : topRun treeTable pw w m0 ann DB (S0 w os) (topStub pw) = some (Sf w os) :=
  go_top (congrFun (pre w) os) (piece_block (congrFun (blk w) os) (rest w os))
noncomputable def Bq : Nat := 7452
noncomputable def q : Program := view pw [0, 2, 3, 4, 5, 6, 7, 8, 10, 11, 12, 13, 14, 15, 16, 17, 18, 19, 20, 22, 24, 25, 27, 28, 29, 30, 31, 33, 34, 35, 36, 37, 38, 39, 40, 41, 42, 43]
noncomputable def loose : List Str := []
end Ap.L08
end
section
namespace Ap.L08
open PySem PySem.W PySem.Calls PyProof.Rows
noncomputable abbrev rw0 : OpenLaw := PySem.Challenge.rw_uf020020_08
noncomputable abbrev rr : RowW := (OpenLaw.row rw0).toRowW
theorem Dm (P : Params) : kas = (K P).map (·.1) := by kernel_rfl
noncomputable abbrev hk : Hook := kHook K kas Dm
noncomputable def lv : List (Str × WData) := []
noncomputable def Xt : Shared → Bool := fun s => xlAt q lv s && recOk (RowW.records rr) s
theorem opn (w : World) : (fencedOpening treeTable pw w Bq).map (fun s => (s.heap, s.gens, s.drawn, s.toks)) = some (boot_heap w.params, Array.mk [], boot_drawn, boot_toks) :=
  boot_open (by kernel_rfl) (by kernel_rfl) (fun s => by kernel_rfl) w
theorem siz (w : World) : ((boot_heap w.params).isNs mainGlobals && (Array.mk [] : Array GenState).size == 0, (boot_heap w.params).objs.size, (boot_heap w.params).nsMap mainGlobals "__annotations__") = (true, m0, ann) := by kernel_rfl
theorem lk0 (w : World) : (fun os => staticsOk (importedModules pw.main.body) (boot_heap w.params) (Sfh w.params) && namesBound pw (Sfh w.params) && gensDone (Sf w os) && laidKept (boot_heap w.params) (Sfh w.params)) = fun os => true := by
  rw [PySem.W.Fast.te5923862056798008813]
  kernel_rfl
theorem lk1 (w : World) : (fun os => seen ((recsOf q).map (·.name)) (ownsOf q) [] { (Sf w os) with gens := #[] }) = fun os => expectedOf q := by
  rw [PySem.W.Fast.te5160383126252970620, PySem.W.Fast.te3399658132070893891, PySem.W.Fast.te5991557255702980513]
  kernel_rfl
theorem lk2 (w : World) : (fun os => (Sf w os).heap.bltView) = fun os => bltViewBooted := by
  kernel_rfl
theorem lk3 (w : World) : (fun os => (Sf w os).heap.keysOk (looseW q loose) ((recsOf q).map (·.name)) ((litsOf q).map (·.1)) ((clssOf q (looseW q loose)).map (·.name)) && (Sf w os).heap.accountedOkI (importedModules pw.main.body) && (Sf w os).heap.isNs mainGlobals && (Sf w os).heap.isNs builtinsNs && tablesOk q (Sf w os).heap && Xt (Sf w os) && (if true then (Sf w os).gens.size == 0 else !leftWithCleanup (Sf w os).gens)) = fun os => true := by
  rw [PySem.W.Fast.te10880121769531294198, PySem.W.Fast.te821141287760084731, PySem.W.Fast.te3399658132070893891, PySem.W.Fast.te7409074990110511671, PySem.W.Fast.te13664370479719496447, PySem.W.Fast.te14722251495701143533, PySem.W.Fast.te5923862056798008813, PySem.W.Fast.te10994771534591457954]
  kernel_rfl
theorem lk4 (w : World) : (fun os => tabsOk q (Sf w os)) = fun os => true := by
  rw [PySem.W.Fast.te479339242167458305]
  kernel_rfl
theorem lk5 (w : World) : (fun os => pinSeenD q (drecsOf q) (Sf w os)) = fun os => pinGoodD (drecsOf q) := by
  rw [PySem.W.Fast.te16090120013241838585, PySem.W.Fast.te3247288618530077131]
  kernel_rfl
theorem lk6 (w : World) : (fun os => plainSeenE q (looseW q loose) (Sf w os)) = fun os => plainGoodE q (looseW q loose) := by
  rw [PySem.W.Fast.te2386780881361962483, PySem.W.Fast.te821141287760084731]
  kernel_rfl
theorem lk7 (w : World) : (fun os => plainSeenD q loose (Sf w os)) = fun os => plainGoodD q loose := by
  rw [PySem.W.Fast.te11698064438423848299]
  kernel_rfl
theorem lk8 (w : World) : (fun os => wideSeen q (Sf w os)) = fun os => wideGood q := by
  rw [PySem.W.Fast.te7317090234206586261]
  kernel_rfl
theorem lk9 (w : World) : (fun os => clsSeenW q loose (Sf w os)) = fun os => clsGoodW q loose := by
  rw [PySem.W.Fast.te7369524293546568484]
  kernel_rfl
theorem lkY (w : World) : (fun os => kas.map (Sf w os).heap.get?) = fun os => (K w.params).map fun p => some p.2 := by
  kernel_rfl
theorem looks (w : World) : (fun os => ((staticsOk (importedModules pw.main.body) (boot_heap w.params) (Sfh w.params) && namesBound pw (Sfh w.params) && gensDone (Sf w os) && laidKept (boot_heap w.params) (Sfh w.params)),
    openSeen q loose (importedModules pw.main.body) Xt true (Sf w os), hk.obs (Sf w os))) = fun _ => (true, openGood q loose, hk.val w) := by
  funext os
  exact looks_pair (congrFun (lk0 w) os) (looks_pair (α := _ × _) (β := List (Option Obj)) (looks_pair (congrFun (lk1 w) os) (looks_pair (congrFun (lk2 w) os) (looks_pair (congrFun (lk3 w) os) (looks_pair (congrFun (lk4 w) os) (looks_pair (congrFun (lk5 w) os) (looks_pair (congrFun (lk6 w) os) (looks_pair (congrFun (lk7 w) os) (looks_pair (congrFun (lk8 w) os) (congrFun (lk9 w) os))))))))) (congrFun (lkY w) os))
theorem left : LeftO pw q loose Xt hk.obs hk.val Bq := LeftO.of_pieces (H₀ := boot_heap) (H₁ := Sfh) opn siz run (by decide +kernel) looks
theorem dkS : (defOf q rr.name).isSome = true := by kernel_rfl
noncomputable def dk : DefRec × List (Str × PySem.Expr) := (defOf q rr.name).get dkS
theorem dkE : defOf q rr.name = some (dk.1, dk.2) := by kernel_rfl
theorem dkP : rr.prog.theDef rr.name = some (dk.1.params, dk.1.body, dk.1.scope) := by kernel_rfl
theorem dkK : kwWritten? dk.1.params.kwonlyargs dk.1.params.kw_defaults = some dk.2 := by kernel_rfl
theorem dkN : dk.1.name = Str.ofString "law" := by kernel_rfl
theorem ws : rw0.wellSaid = true := by
  rw [PySem.W.Fast.te9446332074065402090]
  kernel_rfl
theorem bare : rr.prog.bare := ⟨rfl, rfl, rfl, rfl, rfl, by decide +kernel⟩
theorem CR : (chainsOk q && opensWell rr.prog && (frees rr && rr.within.isEmpty)) = true := by kernel_rfl
theorem prm : RowW.promised (OpenLaw.row PySem.Challenge.rw_uf020020_08).toRowW := by w_witness2
theorem hd (hc : WalkO q loose (XL q lv) hk.says rr dk.1 dk.2 fun f vs => PySem.call f vs) : PySem.Challenge.rw_uf020020_08.Holds :=
  holds_law ws fun said => holds_open (r := OpenLaw.row rw0) left hk.of hk.keeps (fun s e => xl_of s (Bool.and_eq_true_iff.mp e).1) XL.keeps dkE dkP dkK (fun s e => recFacts_of (Bool.and_eq_true_iff.mp e).2) (by kernel_rfl) said CR bare prm hc
end Ap.L08
end
section
namespace Ap
open PySem
section
variable {σ : St} {Q : PQ} {E : PE} {ρ : Loc} {z : Bool} {n : Nat} {R : Option AV → St → Prop} {src : WX} {tb : TB} {caps : List Nat} {c e : WE} {v y : AV} {es : WL} {xs : List AV} {G : St → Prop} {K : Bool → Prop} {l : Nat} {x : Int}
theorem xe : rh z es ρ σ Q E = es ρ σ (tu z Q) E := rfl
theorem uT {a b : Int} : tu z Q [.int a, .int b] σ = ((a.natAbs < 2 ^ 60 ∧ b.natAbs < 2 ^ 60 ∧ b - a ≤ 1000000) ∧ mkL z (bW a b) σ Q) := propext ⟨fun ⟨_, _, e, h, q⟩ => by cases e; exact ⟨h, q⟩, fun ⟨h, q⟩ => ⟨_, _, rfl, h, q⟩⟩
theorem jx (h : σ l = some (.list xs)) : kz [.obj l] σ Q = Q (.int xs.length) σ := propext ⟨fun ⟨_, _, e1, e2, q⟩ => by cases e1; rw [h] at e2; cases e2; exact q, fun q => ⟨_, _, rfl, h, q⟩⟩
theorem bB {a b : Int} (h : 0 < b) : 0 ≤ a.fmod b := Int.fmod_nonneg_of_pos a h
theorem bU {a b : Int} (h : 0 < b) : a.fmod b < b := Int.fmod_lt_of_pos a h
theorem oE {a b : Int} {i : Nat} {x : AV} (h : (bW a b)[i]? = some x) : i < (b - a).toNat ∧ x = .int (a + i) := by
  unfold bW at h
  rw [List.getElem?_map, Option.map_eq_some_iff] at h
  obtain ⟨k, hk, rfl⟩ := h
  obtain ⟨h1, h2⟩ := List.getElem?_eq_some_iff.mp hk
  rw [List.getElem_range] at h2
  rw [List.length_range] at h1
  exact ⟨h1, by rw [h2]⟩
theorem gA (a b : Int) : (bW a b).length = (b - a).toNat := by unfold bW; rw [List.length_map, List.length_range]
theorem dm {a b : Int} {x : AV} (h : x ∈ bW a b) : ∃ i : Int, x = .int i ∧ a ≤ i ∧ i < b := by
  unfold bW at h
  obtain ⟨k, hk, rfl⟩ := List.mem_map.mp h
  have := List.mem_range.mp hk
  exact ⟨_, rfl, by omega, by omega⟩
theorem tI {u v : AV} {a : PyData} (h1 : rd 8 σ u = some a) (h2 : rd 8 σ v = some a) (h3 : PyData.eqv a a = true) : cNe u v σ K = K false := by rw [Cs h1 h2, h3]; rfl
theorem Ck {u v : AV} {a : PyData} (h1 : rd 8 σ u = some a) (h2 : rd 8 σ v = some a) (h3 : PyData.eqv a a = true) : cEq u v σ K = K true := by rw [xO h1 h2, h3]
theorem yY {i j : Int} : cNe (.int i) (.int j) σ K = K (!(i == j)) := Cs (p := .int i) (q := .int j) rfl rfl
theorem CU {i : Int} : mc .int (.int i) = true := rfl
theorem CS {i : Int} : mc .bool (.int i) = false := rfl
theorem Df {b : Bool} : mc .int (.bool b) = true := rfl
theorem Do {b : Bool} : mc .bool (.bool b) = true := rfl
theorem AY {xs : List AV} : mc .tuple (.tup xs) = true := rfl
noncomputable def amongB (v : AV) (lo hi : Int) : Bool := match v with
  | .int i => decide (lo ≤ i) && decide (i ≤ hi)
  | _ => false
theorem cm {a b : Nat} {o : AObj} (h : σ a = some o) (hb : σ b = Option.none) : a ≠ b := fun q => by rw [q, hb] at h; cases h
end
end Ap
end
section
namespace Ap
open PySem PySem.Calls PyProof.Rows
noncomputable def qC : O1 := fun v σ Q => (cR v = true ∧ Q (.bool (mc .list v)) σ) ∨ ∃ a xs, v = .obj a ∧ σ a = some (.list xs) ∧ Q (.bool true) σ
noncomputable def qR : ON := fun vs σ Q => ∃ v xs, vs = [v] ∧ dS σ v = some xs ∧ Q (.int xs.length) σ
section
variable {C : Cx} {T : Tabs} {P : Prg} {d : Nat} {sc : Scope} {nms nms' : List Str} {q : Bool} {A : Around} {V : Vo} {σ σ' : St} {ow ow' : Nat → Option Nat} {s s' : Shared} {env : Env}
theorem Both.isiE (X : CxOk C T P) {e : WE} {y : Expr} {n z : Str} {np zp pos : Pos} (he : Both C d sc nms q e y) (hst : dg y = true) (hn : n = ("isinstance" : Str)) (hb : n ∈ T.bltN) (h3 : gl sc n = true) (hz : bootBuiltins z = some (tyV .list)) (hb' : z ∈ T.bltN) (h3' : gl sc z = true) :
    Both C d sc nms q (vO1 qC e) (.Call (.Name n np) [y, .Name z zp] [] pos) :=
  .isiG X he hst hn hb h3 (fun A env envs ρ σ ow s Q E hs ok hq => by
    obtain ⟨g1, g2, g3⟩ := eT h3'
    exact bname X (by unfold Env.kindOf; rw [hs]; exact g1) g2 ok hb' g3 hz hq) fun A envs σ ow s Qa Q E v u g k r w => by
    rcases w with w | ⟨a, xs, rfl, e, w⟩
    · exact tM r w fun tk z => k.val g tk z (.bool _)
    · cases r
      obtain ⟨vs, ⟨_, m, hx⟩, _⟩ := g.store _ _ e
      exact IsiPair.list_list hx rfl (k.val g _ w (.bool _))
theorem yM : fL C true (.builtin "len") qR := by
  intro A envs σ ow s Qa Q E vs vals hq g k r w
  obtain ⟨v, xs, rfl, e, w⟩ := w
  cases r with | cons r1 r2 =>
  cases r2
  cases v <;> first | cases e | skip
  · rename_i ys
    cases r1 with | ilist li off r =>
    refine len_list li.isList (by have := li.1; rw [List.size_toArray]; omega) ?_
    rw [List.size_toArray, ← r.length]
    exact k.val g _ w (.int _ _)
  · have hs := cW e
    cases r1
    obtain ⟨vs, li, rr⟩ := g.store _ _ hs
    refine len_list li.isList (by have := li.1; rw [List.size_toArray]; omega) ?_
    rw [List.size_toArray, ← rr.length]
    exact k.val g _ w (.int _ _)
theorem qU : BiOk C true (Str.ofString "len") qR := ⟨⟨_, by decide +kernel, .inl ⟨_, rfl⟩, yM⟩⟩
end
section
variable {σ : St} {Q : PQ} {v : AV} {xs : List AV} {l : Nat}
theorem xK (h : cR v = true) : qC v σ Q = Q (.bool (mc .list v)) σ := propext ⟨fun w => w.elim (fun w => w.2) (fun ⟨_, _, e, _⟩ => by subst e; cases h), fun q => Or.inl ⟨h, q⟩⟩
theorem yx (h : σ l = some (.list xs)) : qC (.obj l) σ Q = Q (.bool true) σ := propext ⟨fun w => w.elim (fun w => by cases w.1) (fun ⟨_, _, _, _, w⟩ => w), fun q => Or.inr ⟨_, _, rfl, h, q⟩⟩
theorem wx (h : dS σ v = some xs) : qR [v] σ Q = Q (.int xs.length) σ := propext ⟨fun ⟨_, _, e1, e2, q⟩ => by cases e1; rw [h] at e2; cases e2; exact q, fun q => ⟨_, _, rfl, h, q⟩⟩
end
end Ap
end
section
namespace Ap
open PySem PySem.Calls PyProof.Rows
noncomputable def xu (c : Nat) (b : WS) (r : WH) (ρ : Loc) (σ : St) (Q : QS) (E : ES) : Bool → Prop := fun t => match t with
  | true => b ρ σ Q AE
  | false => r c ρ σ Q E
noncomputable def pD (cs : List ClsI) (d : Nat) (b : WS) (r : WH) : WH := fun c ρ σ Q E => ∃ ci, cs[c]? = some ci ∧ xu c b r ρ σ Q E (ci.sups.contains d)
section
variable {C : Cx} {T : Tabs} {P : Prg} {F : Calls} {d : Nat} {sc : Scope} {nms : List Str} {q : Bool}
inductive BothN (C : Cx) (T : Tabs) (P : Prg) (d : Nat) (sc : Scope) (nms : List Str) : WH → List ExceptHandler → Prop
  | nil : BothN C T P d sc nms At []
  | cons {dd : Nat} {b : WS} {n : Str} {np pos : Pos} {b₀ : Stmt} {bs : List Stmt} {r : WH} {rest : List ExceptHandler} {cj : ClsI} : T.clsN[dd]? = some n → gl sc n = true → P.cls[dd]? = some cj → cj.init = Option.none →
      BothB C d sc nms true b (b₀ :: bs) → BothN C T P d sc nms r rest → BothN C T P d sc nms (pD P.cls dd b r) (.ExceptHandler (some (.Name n np)) Option.none (b₀ :: bs) pos :: rest)
variable {A : Around} {env : Env} {V : Vo} {outer : List Env} {ρ : Loc} {σ : St} {ow : Nat → Option Nat} {s : Shared}
theorem qP (X : CxOk C T P) (hF : FEnv env nms V outer) (hs : env.scope = sc) (ha : AOk A V d) (hh : A.handled = Option.none) {σ₀ : St} {ow₀ : Nat → Option Nat} {s₀ : Shared} {Qa : QS} {Ea : ES} {Q : Flow → Shared → Prop} {E : Value → Shared → Prop} {e Tb : Addr} {c : Nat}
    (hb : C.base.StaysIn s₀.heap) (ks : KS C A false env V nms σ₀ ow₀ s₀ Qa Q) (kx : KXS C A false env V nms σ₀ ow₀ s₀ Ea E) (hxc : c ∈ C.xcs) {hs' : WH} {xs : List ExceptHandler} (hB : BothN C T P d sc nms hs' xs) :
    ∀ ρ σ ow s, hs' c ρ σ Qa Ea → SOk C A false env V nms ρ σ ow s → SStp (dL env) V.fs (Own σ₀ ow₀) (Own σ ow) s₀ s →
      ExO s.heap e (.ref (C.clsA c)) (some (Tb, .none)) → s₀.heap.get? e = Option.none ∧ ¬ Zs σ ow (zss V) e → s₀.heap.get? Tb = Option.none → ¬ Zs σ ow (zss V) Tb →
      wpAny (model C.prog C.w) A (handleBy (.ref e) env xs) Q E s := by
  induction hB with
  | nil =>
    intro ρ σ ow s w k st x n nT nZ
    exact rN X hF hs ha hh hb ks kx hxc .nil ρ σ ow s w k st x n nT nZ
  | @cons dd b nm np pos b₀ bs r rest cj h1 h2 h3 h4 h7 _ ih =>
    intro ρ σ ow s w k st xo n nT nZ
    obtain ⟨ci, hci, w⟩ := w
    obtain ⟨g1, g2, g3⟩ := eT h2
    have km := k.mark xo n.2
    refine wpAny_handleBy_cons (codeAny_handlers_test (gname X (by unfold Env.kindOf; rw [hs]; exact g1) g2 km.ok (X.clsN dd nm h1) ?_)) (by intro q; cases q)
    obtain ⟨oe, vs, a0, x1, x2, x3, x4, x5, x6, x7, x8⟩ := id xo
    refine X.exm c hxc dd (X.xcs dd cj h3 h4) ci hci _ _ _ s e oe vs k.ok.good.stays x1 x3 x4 x2 ?_
    cases hsup : ci.sups.contains dd with
    | false =>
      rw [hsup] at w
      exact ih ρ σ ow s w k st xo n nT nZ
    | true =>
      rw [hsup] at w
      have ham : AOk (A.mark (some (.ref e))) V d := ha.mark _
      refine codeAny_handlers_suite (dB hF hb st km n xo nT nZ fun s' st' k' x' => ?_)
      refine h7.snd _ env V outer hF hs ham _ σ ow s' _ _ _ _ w k' (fun fl af ρ₃ σ₃ ow₃ s₃ z st₃ k₃ rf => ?_) (fun e c ρ₃ σ₃ ow₃ s₃ z st₃ k₃ th => False.elim z)
      cases rf with
      | next => exact ks _ _ ρ₃ σ₃ ow₃ s₃ z (st'.trans st₃) (k₃.unmark hh) .next
      | ret r => exact ks _ _ ρ₃ σ₃ ow₃ s₃ z (st'.trans st₃) (k₃.unmark hh) (.ret r)
theorem BothS.tryN (X : CxOk C T P) {body : WS} {hs' : WH} {xs : List Stmt} {h₀ : ExceptHandler} {hrest : List ExceptHandler} {pos : Pos} (hB : BothB C d sc nms false body xs) (hH : BothN C T P d sc nms hs' (h₀ :: hrest)) :
    BothS C d sc nms false (AA body hs') (.Try xs (h₀ :: hrest) [] [] pos) where
  snd := fun A env V outer hF hs ha ρ σ ow s Qa Ea Q E w k ks kx => by
    refine wpAny_Try_except (hB.snd A env V outer hF hs ha ρ σ ow s _ _ _ _ w k (fun fl af ρ₃ σ₃ ow₃ s₃ z st₃ k₃ rf => ?_) (fun e c ρ₃ σ₃ ow₃ s₃ z st₃ k₃ th => ?_))
    · cases rf with
      | next => exact wpAny_execs_nil (ks _ _ ρ₃ σ₃ ow₃ s₃ z st₃ k₃ .next)
      | ret r => exact ks _ _ ρ₃ σ₃ ow₃ s₃ z st₃ k₃ (.ret r)
    · have t0 := th.1
      refine nH hF ha.frames k.ok.good.stays st₃ k₃ th fun s' Tb st' k' x nT nZ => ?_
      refine dB hF k.ok.good.stays st' k' ⟨t0.1, t0.2.1⟩ x nT nZ fun s'' st'' k'' x' => ?_
      exact qP X hF hs ha k.ok.hnd.none k.ok.good.stays ks kx t0.2.2 hH ρ₃ σ₃ ow₃ s'' z k'' st'' x' ⟨t0.1, t0.2.1⟩ nT nZ
end
section
variable {σ : St} {ρ : Loc} {QQ : QS} {EE : ES} {n : Nat} {A : WS} {H : WH}
theorem mB {cs : List ClsI} {ci : ClsI} {d : Nat} (h : cs[n]? = some ci) : pD cs d A H n ρ σ QQ EE = xu n A H ρ σ QQ EE (ci.sups.contains d) := propext ⟨fun ⟨_, e, q⟩ => by rw [h] at e; cases e; exact q, fun q => ⟨_, h, q⟩⟩
theorem oX : xu n A H ρ σ QQ EE true = A ρ σ QQ AE := rfl
theorem tK : xu n A H ρ σ QQ EE false = H n ρ σ QQ EE := rfl
end
end Ap
end
section
namespace Ap
open PySem PySem.Calls PyProof.Rows PySem.SeqAt PySem.SeqAt
noncomputable def BO (kvs : List (Str × Str)) (x : Str) : Option Str := (kvs.find? fun e => e.1 == x).map (·.2)
noncomputable def Bp (C : Cx) (n : Str) (kvs : List (Str × Str)) : Prop := ∃ a f o, C.mg n = some (.ref a) ∧ C.base.get? a = some o ∧ o.cls = .type "dict" ∧ C.base.MapOf (strKind C.prog C.w) a f ∧ ∀ x v, BO kvs x = some v → (∃ t, f x = some (.str v t)) ∧ PyData.strOk v = true
noncomputable def GVs (C : Cx) (gvs : List (Str × List (Str × Str))) : Prop := ∀ n kvs, (n, kvs) ∈ gvs → Bp C n kvs
section
variable {C : Cx} {T : Tabs} {P : Prg} {F : Calls} {d : Nat} {sc : Scope} {nms : List Str} {q : Bool} {gvs : List (Str × List (Str × Str))}
theorem GVs.nil : GVs C [] := fun _ _ m => nomatch m
theorem GVs.cons {n : Str} {kvs : List (Str × Str)} (h : Bp C n kvs) (y : GVs C gvs) : GVs C ((n, kvs) :: gvs) := fun n' k' m => by
  rcases List.mem_cons.mp m with e | m
  · cases e; exact h
  · exact y n' k' m
end
section
variable {σ : St} {ρ : Loc} {Q : PQ} {E : PE} {K : Bool → Prop}
end
end Ap
end
section
namespace Ap
open PySem PySem.Calls PyProof.Rows
section
variable {C : Cx} {T : Tabs} {P : Prg} {F : Calls} {d : Nat} {sc : Scope} {nms : List Str} {q : Bool}
theorem hL {e : WE} {x : Expr} {es : WL} {xs : List Expr} (a : Both C d sc nms q e x) (b : BothL C d sc nms q es xs) (h : dg x = true := by rfl) : BothL C d sc nms q (ac e es) (x :: xs) := .cons a h b
theorem hLn : BothL C d sc nms q ao [] := .nil
theorem hB {i is : WS} {x : Stmt} {xs : List Stmt} (h : BothS C d sc nms q i x) (hr : BothB C d sc nms q is xs) : BothB C d sc nms q (ad i is) (x :: xs) := .cons h hr
theorem hBn : BothB C d sc nms q ap [] := .nil
theorem hV {i : Nat} {n : Str} {pos : Pos} (h1 : nms[i]? = some n := by kernel_rfl) (h2 : (n == ("__debug__" : Str)) = false := by kernel_rfl) (h3 : (n == ("__classdict__" : Str)) = false := by kernel_rfl) : Both C d sc nms q (aa i) (.Name n pos) := .var h1 h2 h3
theorem hI {i : Int} {k : Nat} {pos : Pos} : Both C d sc nms q (vC (.int i)) (.Constant (.int i) k pos) := .int
theorem aG {o : Operator} {f : O2} {a b : WE} {x y : Expr} {pos : Pos} (hf : BinSnd C o f) (ha' : Both C d sc nms q a x) (hb : Both C d sc nms q b y) : Both C d sc nms q (vO2 f a b) (.BinOp x o y pos) := .bin hf ha' hb
theorem hS {x : Str} {k : Nat} {pos : Pos} (h : PyData.strOk x = true := by kernel_rfl) : Both C d sc nms q (vC (.str x)) (.Constant (.str x) k pos) := .str h
theorem hAt (X : CxOk C T P) {e : WE} {c f : Nat} {v : Expr} {n : Str} {pos : Pos} (he : Both C d sc nms q e v) (hb : eh v = true := by rfl) (hn : T.atN[f]? = some n := by kernel_rfl) (hm : ∀ ci, P.cls[c]? = some ci → ci.meths.lookup f = Option.none := by intro ci h; cases h; rfl) : Both C d sc nms q (vO1 (ay c f) e) (.Attribute v n pos) := .attr X he hb hn hm
theorem hIx {f : O2} {e i : WE} {v sl : Expr} {pos : Pos} (hf : kQ C f) (he : Both C d sc nms q e v) (hi : Both C d sc nms q i sl) (hp : ∀ o i, subscripted sl false o i = operate [o, i] (getItem o i) := by exact fun _ _ => rfl) : Both C d sc nms q (vO2 f e i) (.Subscript v sl pos) := .idx hf he hi hp
theorem hTu {es : WL} {xs : List Expr} {k : Nat} {pos : Pos} (h : BothL C d sc nms q es xs) (hl : xs.length ≤ 1000 := by decide) : Both C d sc nms q (dj es) (.Tuple xs k pos) := .tup h hl
theorem hLs {own : Bool} {es : WL} {xs : List Expr} {pos : Pos} (h : BothL C d sc nms q es xs) (hl : xs.length ≤ 1000 := by decide) : Both C d sc nms q (ee own es) (.List xs pos) := .lst h hl
theorem hCa (X : CxOk C T P) (hF : bZ C P d F) {f : Nat} {n : Str} {es : WL} {xs : List Expr} {np pos : Pos} (h : BothL C d sc nms q es xs) (h1 : T.fnN[f]? = some n := by kernel_rfl) (h2 : n ≠ Str.empty := by decide +kernel) (h3 : gl sc n = true := by kernel_rfl) (hq : (!q || qOf P f) = true := by kernel_rfl) : Both C d sc nms q (aT F f es) (.Call (.Name n np) xs [] pos) := .call X hF h h1 h2 h3 hq
theorem hBi (X : CxOk C T P) {q' : Bool} {f : ON} {n : Str} {es : WL} {xs : List Expr} {np pos : Pos} (hb : BiOk C q' n f) (h : BothL C d sc nms q es xs) (hn : n ∈ T.bltN := by decide +kernel) (h3 : gl sc n = true := by kernel_rfl) (hq : q' = false → q = false := by decide) : Both C d sc nms q (vON f es) (.Call (.Name n np) xs [] pos) := .bi X hb h hn h3 hq
theorem hMe (X : CxOk C T P) (hF : bZ C P d F) {e : WE} {c m f : Nat} {ci : ClsI} {n : Str} {o : Expr} {es : WL} {xs : List Expr} {apos pos : Pos} (he : Both C d sc nms false e o) (h : BothL C d sc nms false es xs) (hc : P.cls[c]? = some ci := by rfl) (hf : ci.meths.lookup m = some f := by rfl) (hb : eh o = true := by rfl) (hn : T.atN[m]? = some n := by kernel_rfl) (hline : (apos.endLine == pos.line) = true := by kernel_rfl) (hlen : xs.length < 20 := by decide) (hlt : f < T.fnN.length := by decide) : Both C d sc nms false (bd F c m f e es) (.Call (.Attribute o n apos) xs [] pos) := .meth X hF he h hb hn hline hlen hc hf hlt
theorem hAs {x : Nat} {n : Str} {e : WE} {v : Expr} {np pos : Pos} (he : Both C d sc nms q e v) (hc : dP v = true := by rfl) (hn : nms[x]? = some n := by kernel_rfl) : BothS C d sc nms q (au x e) (.Assign [.Name n np] v pos) := .assign he hc hn
theorem hSa (X : CxOk C T P) {o e : WE} {c f : Nat} {ov v : Expr} {n : Str} {np pos : Pos} (ho : Both C d sc nms q o ov) (he : Both C d sc nms q e v) (hc : dP v = true := by rfl) (hn : T.atN[f]? = some n := by kernel_rfl) (hm : P.cls.all (fun ci => (ci.meths.lookup f).isNone) = true := by kernel_rfl) : BothS C d sc nms q (aL o c f e) (.Assign [.Attribute ov n np] v pos) := .setAttr X ho he hc hn hm
theorem hCm {a : WE} {l : Expr} {r : AV → WBl} {cs : List CmpOp} {xs : List Expr} {pos : Pos} (ha' : Both C d sc nms q a l) (h : BothC C d sc nms q r cs xs) (hm : lastMarks cs xs = false := by rfl) : Both C d sc nms q (bK a r) (.Compare l cs xs pos) := .cmp ha' h hm
theorem hEx {e : WE} {v : Expr} {pos : Pos} (he : Both C d sc nms q e v) (hc : dP v = true := by rfl) : BothS C d sc nms q (dz e) (.Expr v pos) := .expr he hc
end
end Ap
end
section
namespace Ap
open PySem PySem.Calls PyProof.Rows
section
variable {C : Cx}
end
section
variable {σ : St} {Q : PQ} {K : Bool → Prop}
end
end Ap
end
section
namespace Ap
open PySem PySem.Calls PyProof.Rows
noncomputable def pC : ON := fun vs σ Q => ∃ a es, vs = [.obj a] ∧ σ a = some (.dictI es) ∧ es.length ≤ 1000000 ∧ ∀ b, σ b = Option.none → Q (.obj b) (upd σ b (.dictI es))
noncomputable def zw (v u : AV) (ρ : Loc) (Q : QS) : PQ := fun kk σ => ∃ a xs i, u = .obj a ∧ kk = .int i ∧ σ a = some (.list xs) ∧ (0 ≤ i ∧ i < xs.length) ∧ Q .next ρ (upd σ a (.list (xs.set i.toNat v)))
noncomputable def Ab (i : WE) (v : AV) (ρ : Loc) (Q : QS) (E : ES) : PQ := fun u σ => i ρ σ (zw v u ρ Q) (kE E ρ)
noncomputable def Az (o i : WE) (ρ : Loc) (Q : QS) (E : ES) : PQ := fun v σ => o ρ σ (Ab i v ρ Q E) (kE E ρ)
noncomputable def om (o i e : WE) : WS := fun ρ σ Q E => e ρ σ (Az o i ρ Q E) (kE E ρ)
section
variable {C : Cx} {d : Nat} {sc : Scope} {nms : List Str} {q : Bool}
theorem vO {T : Tabs} {P : Prg} (X : CxOk C T P) : fL C true (.type "dict") pC := by
  intro A envs σ ow s Qa Q E vs vals hq g k r w
  obtain ⟨a, es, rfl, hs, hl, w⟩ := w
  cases r with | cons r1 r2 =>
  cases r2
  cases r1
  obtain ⟨kvs, hd, ne, kse, rr⟩ := (dkI C).get (g.store a _ hs)
  have dp := oC kse rr
  have hlen := dp.length
  refine kt_call_dict ne hd (by unfold sizeLine; omega) fun h' hd' sb => ?_
  have qq : ∀ b o, s.heap.get? b = some o → h'.get? b = some o := fun b o e => (sb.2 b (Nat.ne_of_lt (Heap.lt_size e))).trans (Heap.get?_push_of_some _ e)
  have na : s.heap.get? s.heap.objs.size = Option.none := Heap.fresh _
  obtain ⟨ob, live, _⟩ := DictOf.clsn hd'
  have dp' := dp.kp (Z' := Zs (upd σ s.heap.objs.size (.dictI es)) ow (zss envs)) (fun b o e _ => qq b o e) (mW (.inl na))
  refine k _ _ _ ow _ (w s.heap.objs.size g.new.1) (Stp.alloc qq na s.toks) (g.alloc (o := .dictI es) qq na g.new.2.2 live ((dkI C).put hd' ?_ dp') s.toks) (.obj _)
  have big := g.big X
  exact beq_eq_false_iff_ne.mpr (fun e => by have : s.heap.objs.size = sysModules := e; rw [this] at big; exact absurd big (by decide))
theorem yj {Z : Nat → Prop} {h : Heap} {v : AV} {u : Value} (rv : VR C Z h v u) : ∀ (xs : List AV) (vs : List Value), VRs C Z h xs vs → ∀ i : Nat, VRs C Z h (xs.set i v) (vs.set i u) := by
  intro xs
  induction xs with
  | nil => intro vs r i; cases r; exact .nil
  | cons x xs ih =>
    intro vs r i
    cases r with | cons hd tl =>
    cases i with
    | zero => exact .cons rv tl
    | succ i => exact .cons hd (ih _ tl i)
theorem BothS.setL {o i e : WE} {ov iv v : Expr} {np pos : Pos} (ho : Both C d sc nms q o ov) (hi : Both C d sc nms q i iv) (he : Both C d sc nms q e v) (hc : dP v = true) :
    BothS C d sc nms q (om o i e) (.Assign [.Subscript ov iv np] v pos) where
  snd := fun A env V outer hF hs ha ρ σ ow s Qa Ea Q E w k ks kx => by
    refine wpAny_Assign_Subscript (he.ev A env V ρ hs ha σ ow s _ _ _ E w k.ok (fun u av σ' ow' s' z st g r => ?_) (kx.toE hF k)) (ib hc)
    have k' := k.stp hF st g
    refine ho.ev A env V ρ hs ha σ' ow' s' _ _ _ E z k'.ok (fun u2 av2 σ₂ ow₂ s₂ z₂ st₂ g₂ r₂ => ?_) ((kx.stp st.toS g).toE hF k')
    have k₂ := k'.stp hF st₂ g₂
    refine hi.ev A env V ρ hs ha σ₂ ow₂ s₂ _ _ _ E z₂ k₂.ok (fun u3 av3 σ₃ ow₃ s₃ z₃ st₃ g₃ r₃ => ?_) (((kx.stp st.toS g).stp st₂.toS g₂).toE hF k₂)
    obtain ⟨a, xs, i, rfl, rfl, hσ, ⟨i0, i1⟩, z₃⟩ := z₃
    cases r₂
    cases r₃
    obtain ⟨us, li, rr⟩ := g₃.store _ _ hσ
    obtain ⟨hz, n, e0⟩ := id li
    have hlen := rr.length
    refine PySem.W.ki_setAt (n := n) (items := us.toArray) e0 i0 (by omega) (by rw [List.size_toArray]; omega) ?_
    have hm : ∃ m, Obj.mapSeq (·.setIfInBounds i.toNat u) (kA us n) = kA (us.set i.toNat u) m := ⟨_, by unfold Obj.mapSeq kA; simp; rfl⟩
    obtain ⟨m, hm⟩ := hm
    have hD : (s₃.heap.update a (Obj.mapSeq (·.setIfInBounds i.toNat u))).get? a = some (kA (us.set i.toNat u) m) := by rw [Heap.get?_update_self _ e0 (by rw [hm]; rfl), hm]
    have hsb : Heap.SameBut a s₃.heap (s₃.heap.update a (Obj.mapSeq (·.setIfInBounds i.toNat u))) := Heap.SameBut.update ..
    generalize s₃.heap.update a (Obj.mapSeq (·.setIfInBounds i.toNat u)) = h' at hD hsb ⊢
    have kp : ∀ b ob, b ≠ a → s₃.heap.get? b = some ob → h'.get? b = some ob := fun b ob nb e => (hsb.2 b nb).trans e
    have st₄ := Stp.change (o := .list (xs.set i.toNat av)) g₃ hσ (.inl rfl) kp s₃.toks
    have g₄ := g₃.change (o := .list (xs.set i.toNat av)) hσ (.inl rfl) kp (by rw [hD]; rfl) ⟨_, ⟨by rw [List.length_set]; exact hz, _, hD⟩, yj (st₄.vr (st₃.vr (st₂.vr r))) _ _ (st₄.vrs rr) _⟩ s₃.toks
    exact ks _ _ ρ _ ow₃ _ z₃ (((st.trans st₂).trans st₃).trans st₄).toS ((k₂.stp hF st₃ g₃).stp hF st₄ g₄) .next
end
theorem uS {C : Cx} {T : Tabs} {P : Prg} (X : CxOk C T P) : BiOk C true (Str.ofString "dict") pC := ⟨⟨_, by decide +kernel, .inr ⟨_, rfl⟩, vO X⟩⟩
section
variable {σ : St} {Q : PQ} {ρ : Loc} {QQ : QS} {EE : ES}
theorem xJ {a : Nat} {es : List (Int × AV)} (h : σ a = some (.dictI es)) (hl : es.length ≤ 1000000) : pC [.obj a] σ Q = ∀ b, σ b = Option.none → Q (.obj b) (upd σ b (.dictI es)) := propext ⟨fun ⟨_, _, e1, e2, _, q⟩ => by cases e1; rw [h] at e2; cases e2; exact q, fun q => ⟨_, _, rfl, h, hl, q⟩⟩
theorem vX {o i e : WE} : om o i e ρ σ QQ EE = e ρ σ (Az o i ρ QQ EE) (kE EE ρ) := rfl
theorem wE {o i : WE} {v : AV} : Az o i ρ QQ EE v σ = o ρ σ (Ab i v ρ QQ EE) (kE EE ρ) := rfl
theorem wI {i : WE} {v u : AV} : Ab i v ρ QQ EE u σ = i ρ σ (zw v u ρ QQ) (kE EE ρ) := rfl
theorem vH {a : Nat} {xs : List AV} {i : Int} {v : AV} (h : σ a = some (.list xs)) : zw v (.obj a) ρ QQ (.int i) σ = ((0 ≤ i ∧ i < xs.length) ∧ QQ .next ρ (upd σ a (.list (xs.set i.toNat v)))) := propext ⟨fun ⟨_, _, _, e1, e2, e3, q⟩ => by cases e1; cases e2; rw [h] at e3; cases e3; exact q, fun q => ⟨_, _, _, rfl, rfl, h, q⟩⟩
end
end Ap
end
section
namespace Ap
open PySem PySem.Calls PyProof.Rows
noncomputable def vS (is : List Nat) (ρ : Loc) (Q : QS) : PQ := fun v σ => ∃ a xs, v = .obj a ∧ σ a = some (.list xs) ∧ xs.length = is.length ∧ Q .next (kB ρ is xs) σ
noncomputable def tF (is : List Nat) (e : WE) : WS := fun ρ σ Q E => e ρ σ (vS is ρ Q) (kE E ρ)
section
variable {prog : Program} {w : World} {A : Around} {E : Value → Shared → Prop} {s : Shared}
theorem uL {it t : Addr} {items : Array Value} (hne : t ≠ it) : ∀ (n i : Nat) (s : Shared) (Q : List Value → Shared → Prop), s.heap.IsListIter it t i → s.heap.IsList t items → i + n ≤ items.size →
    (∀ h', h'.IsListIter it t (i + n) → Heap.SameBut it s.heap h' → Q ((items.toList.drop i).take n) { s with heap := h' }) → wpAny (model prog w) A (draw (.ref it) n) Q E s := by
  intro n
  induction n with
  | zero =>
    intro i s Q hit _ _ hQ
    show wpAny _ _ (pure []) Q E s
    exact wpAny_pure (by simpa using hQ s.heap hit (Heap.SameBut.refl ..))
  | succ n ih =>
    intro i s Q hit ht hle hQ
    have hlt : i < items.size := by omega
    show wpAny _ _ (pyNext (.ref it) >>= _) Q E s
    refine wpAny_bind (wpAny_pyNext_list_item hit ht (x := items[i]) (by simp [hlt]) fun h₁ hit₁ hs₁ => ?_)
    refine wpAny_bind (wpAny_holding (ih (i + 1) _ _ hit₁ (ht.extBut hs₁.extBut hne) (by omega) fun h₂ hit₂ hs₂ => wpAny_pure ?_))
    have hd : items.toList.drop i = items[i] :: items.toList.drop (i + 1) := by simp [List.drop_eq_getElem_cons, hlt]
    have := hQ h₂ (by rw [show i + (n + 1) = i + 1 + n by omega]; exact hit₂) (hs₁.trans hs₂)
    rw [hd, List.take_succ_cons] at this
    exact this
theorem md {t : Addr} {items : Array Value} {Q : List Value → Shared → Prop} (hh : A.handled = Option.none) (ht : s.heap.IsList t items)
    (hQ : ∀ h', Heap.ExtBut s.heap.objs.size s.heap h' → Q items.toList { s with heap := h' }) : wpAny (model prog w) A (unpackItems (.ref t) items.size Option.none) Q E s := by
  have hlt : t ≠ s.heap.objs.size := by obtain ⟨o, ho, _⟩ := ht; exact Nat.ne_of_lt (Heap.lt_size ho)
  unfold unpackItems
  refine wpAny_bind ?_
  unfold notIterableAtAll
  refine wpAny_bind (wpAny_specialOf ht.typeIs slot_list_iter.lookup ?_)
  refine wpAny_pure ?_
  simp only [Bool.false_eq_true, if_false]
  refine wpAny_bind (wpAny_holding (wpAny_pyIter_list ht ?_))
  refine wpAny_bind (wpAny_holding (uL hlt items.size 0 _ _ ⟨_, Heap.get?_push_size _ rfl, rfl, rfl⟩ (ht.push _) (by omega) fun h₁ hit₁ hs₁ => ?_))
  have hall : List.take items.size (List.drop 0 items.toList) = items.toList := by
    rw [List.drop_zero]; exact List.take_of_length_le (by simp)
  rw [hall]
  rw [if_neg (by simp)]
  have ht₁ : h₁.IsList t items := (ht.push _).extBut hs₁.extBut hlt
  refine wpAny_bind (wpAny_holding (wpAny_pyNext_list_end hh hit₁ ht₁ (by simp) fun h₂ he₂ => ?_))
  simp only [Option.isSome_none, Bool.false_eq_true, if_false]
  refine wpAny_pure (hQ h₂ fun b o hb e => he₂ b o hb (hs₁.extBut b o hb (Heap.get?_push_of_some _ e)))
theorem lD {env : Env} {elts : List Expr} {x1} {pos : Pos} {t : Addr} {items : Array Value} {Q : Unit → Shared → Prop} (hh : A.handled = Option.none) (ht : s.heap.IsList t items)
    (hn : (assignEach elts env).length = items.size) (hstar : (assignEach elts env).findIdx? (·.1) = Option.none)
    (h : ∀ h', Heap.ExtBut s.heap.objs.size s.heap h' → wpAny (model prog w) A (assignInOrder ((assignEach elts env).map (·.2)) items.toList) Q E { s with heap := h' }) :
    wpAny (model prog w) A (assign (.Tuple elts x1 pos) env (.ref t)) Q E s := by
  rw [arm_assign_Tuple]
  refine wpAny_bind (wpAny_standAt ?_)
  unfold unpack
  rw [hn, hstar]
  exact wpAny_bind (wpAny_holding (md hh ht h))
end
section
variable {C : Cx} {d : Nat} {sc : Scope} {nms : List Str}
theorem BothS.unpL {is : List Nat} {es : List Expr} {e : WE} {v : Expr} {kk : Nat} {tp pos : Pos} (he : Both C d sc nms false e v) (hc : ∀ env : Env, swapsWithSole [.Tuple es kk tp] v pos.line env = pure false ∧ swappedStores [.Tuple es kk tp] v env = pure Option.none) (hn : NamesAre nms es is) :
    BothS C d sc nms false (tF is e) (.Assign [.Tuple es kk tp] v pos) where
  snd := fun A env V outer hF hs ha ρ σ ow s Qa Ea Q E w k ks kx => by
    refine Assign_Tuple (he.ev A env V ρ hs ha σ ow s _ _ _ E w k.ok (fun u av σ' ow' s' z st g r => ?_) (kx.toE hF k)) (hc env).1 (hc env).2
    obtain ⟨a, xs, rfl, hσ, hl, z⟩ := z
    have k' := k.stp hF st g
    cases r
    obtain ⟨us, li, rr⟩ := g.store _ _ hσ
    have hlen := rr.length
    refine lD k.ok.hnd.none li.isList (by rw [(hn.len env).1, List.size_toArray]; omega) (hn.len env).2 fun h' ext => ?_
    have gr : ∀ b o, s'.heap.get? b = some o → h'.get? b = some o := fun b o e => ext b o (Nat.ne_of_lt (Heap.lt_size e)) e
    have st' : Stp (frs V) (Own σ' ow') (Own σ' ow') s' { s' with heap := h' } := Stp.ext gr s'.toks
    have g' := g.ext gr s'.toks
    refine oy hF hn xs _ ρ _ hl (st'.vrs rr) (k'.stp hF st' g') fun s₃ st₃ k₃ => ?_
    exact ks _ _ _ σ' ow' s₃ z ((st.trans st').toS.trans st₃) k₃ .next
end
section
variable {σ : St} {ρ : Loc} {QQ : QS} {EE : ES} {is : List Nat} {e : WE}
theorem AP : tF is e ρ σ QQ EE = e ρ σ (vS is ρ QQ) (kE EE ρ) := rfl
theorem xU {a : Nat} {xs : List AV} (h : σ a = some (.list xs)) (hl : xs.length = is.length) : vS is ρ QQ (.obj a) σ = QQ .next (kB ρ is xs) σ := propext ⟨fun ⟨_, _, e1, e2, _, q⟩ => by cases e1; rw [h] at e2; cases e2; exact q, fun q => ⟨_, _, rfl, h, hl, q⟩⟩
end
end Ap
end
section
namespace Ap
open PySem PySem.Calls PyProof.Rows
noncomputable def pP : O2 := fun a b σ Q => ∃ xs i, a = .tup xs ∧ b = .int i ∧ (0 ≤ i ∧ i < xs.length) ∧ Q (.tup (xs.take i.toNat)) σ
section
variable {prog : Program} {w : World} {A : Around} {E : Value → Shared → Prop} {s : Shared}
theorem uM (b n : Nat) (hb : b ≤ n) : Builtin.Slice.sliceAdjust Option.none (some (b : Int)) 1 (n : Int) = ((0 : Int), (b : Int)) := by
  unfold Builtin.Slice.sliceAdjust
  have h1 : ¬ ((1 : Int) < 0) := by omega
  have h2 : ¬ ((b : Int) < 0) := by omega
  simp only [h1, h2, if_false]
  congr 1
  omega
theorem uN (b : Nat) : Builtin.Slice.slicePlaces (0 : Int) (b : Int) 1 = b := by
  unfold Builtin.Slice.slicePlaces
  have h1 : (1 : Int) > 0 := by omega
  simp only [h1, if_true, Int.ediv_one]
  split <;> omega
theorem lZ {sl : Addr} {b n : Nat} {u : Tok} {Q : Int × Int × Nat → Shared → Prop} (hs : s.heap.IsSliceOf sl .none (.int b u) .none) (hb : b ≤ n) (h : Q ((0 : Int), 1, b) s) :
    wpAny (model prog w) A (Builtin.Slice.sliceApplied (.ref sl) (pure (n : Int))) Q E s := by
  obtain ⟨os, hos, hcs, hds⟩ := id hs
  unfold Builtin.Slice.sliceApplied Builtin.Slice.sliceFields
  refine wpAny_bind (wpAny_bind (wpAny_field hos hds (x := .none) rfl (wpAny_bind (wpAny_field hos hds (x := .int b u) rfl (wpAny_bind (wpAny_field hos hds (x := .none) rfl (wpAny_pure ?_)))))))
  refine wpAny_bind (slicePart_none ?_)
  show wpAny _ _ (if ((1 : Int) == 0) = true then _ else _) _ _ s
  rw [if_neg (by decide)]
  refine wpAny_bind (slicePart_none (wpAny_bind (slicePart_int (wpAny_bind (wpAny_pure ?_)))))
  show wpAny _ _ (match Builtin.Slice.sliceAdjust Option.none (some (b : Int)) 1 (n : Int) with | (lo, hi) => pure (lo, (1 : Int), Builtin.Slice.slicePlaces lo hi 1)) _ _ s
  rw [uM b n hb]
  show wpAny _ _ (pure ((0 : Int), (1 : Int), Builtin.Slice.slicePlaces (0 : Int) (b : Int) 1)) _ _ s
  rw [uN b]
  exact wpAny_pure h
theorem yG (xs : Array Value) (b : Nat) (hb : b ≤ xs.size) : ((List.range b).filterMap fun (k : Nat) => xs[((0 : Int) + (k : Int) * 1).toNat]?).toArray = (xs.toList.take b).toArray := by
  have e : (fun (k : Nat) => xs[((0 : Int) + (k : Int) * 1).toNat]?) = fun k => xs[0 + k]? := by
    funext k
    have : ((0 : Int) + (k : Int) * 1).toNat = 0 + k := by omega
    rw [this]
  rw [e]
  have := pick_run xs 0 b
  rw [List.filterMap_map] at this
  have e2 : ((fun x => xs[x]?) ∘ fun x => 0 + x) = fun k => xs[0 + k]? := rfl
  rw [e2] at this
  rw [this, List.drop_zero]
theorem kX {t sl : Addr} {items : Array Value} {b : Nat} {u : Tok} {Q : Value → Shared → Prop} (ht : IsTup s.heap t items) (hs : s.heap.IsSliceOf sl .none (.int b u) .none) (hb : b < items.size)
    (h : Q (.ref s.heap.objs.size) { s with heap := s.heap.push { cls := .type "tuple", data := .seq (items.toList.take b).toArray } })
    (hsz : items.size ≤ sizeLine) : wpAny (model prog w) A (getItem (.ref t) (.ref sl)) Q E s := by
  have hdrop : sizeOk (.seq (items.toList.take b).toArray) := by
    show (items.toList.take b).toArray.size ≤ sizeLine
    rw [List.size_toArray, List.length_take, Array.length_toList]
    omega
  obtain ⟨os, hos, hcs, hds⟩ := id hs
  have hTs : s.TypeIs (.ref sl) "slice" := ⟨os, hos, hcs⟩
  unfold getItem
  try with_reducible refine wpAny_holding ?_
  first | refine wpAny_bind (wpAny_pure ?_) | skip
  refine wpAny_bind (wpAny_sequenceKey ht.typeIs (by decide) ?_)
  refine wpAny_bind (wpAny_callSpecial?_slot (name := Str.ofString "__getitem__") ht.typeIs slot_tuple_getitem
    (wpAny_call_entry slot_tuple_getitem ht.typeIs entry_tuple_getitem ?_ (args_tuple_getitem _ _)))
  show wpAny _ _ (Builtin.Tuple.tupleItemsOf (.ref t) >>= _) _ _ s
  refine wpAny_bind (tupleItemsOf_ ht ?_)
  refine wpAny_bind (wpAny_typeOf hTs ?_)
  rw [if_pos (by decide)]
  refine wpAny_bind (lZ hs (Nat.le_of_lt hb) ?_)
  have hno : ¬ (((0 : Int) == 0 && (1 : Int) == 1 && b == items.size) = true) := by
    have : (b == items.size) = false := by rw [beq_eq_false_iff_ne]; omega
    rw [this]; simp
  show wpAny _ _ (if ((0 : Int) == 0 && (1 : Int) == 1 && b == items.size) = true then _ else _) _ _ s
  rw [if_neg hno, yG items b (Nat.le_of_lt hb)]
  first
    | exact wpAny_bind (m := Builtin.Tuple.tupleExact _) (wpAny_newObj_type (wpAny_pure ⟨_, rfl, wpAny_pure h⟩) hdrop)
    | exact wpAny_bind (m := Builtin.Tuple.tupleExact _) (wpAny_newObj_type (wpAny_bind (wpAny_pure (wpAny_pure ⟨_, rfl, wpAny_pure h⟩))) hdrop)
    | exact wpAny_bind (wpAny_bind (m := Builtin.Tuple.tupleExact _) (wpAny_newObj_type (wpAny_pure (wpAny_pure ⟨_, rfl, wpAny_pure h⟩)) hdrop))
    | exact wpAny_bind (wpAny_bind (m := Builtin.Tuple.tupleExact _) (wpAny_newObj_type (wpAny_pure ⟨_, rfl, wpAny_pure h⟩) hdrop))
end
section
variable {C : Cx} {d : Nat} {sc : Scope} {nms : List Str} {q : Bool}
theorem Both.sliceHiT {e i : WE} {v u : Expr} {pp pos : Pos} (he : Both C d sc nms q e v) (hi : Both C d sc nms q i u) : Both C d sc nms q (vO2 pP e i) (.Subscript v (.Slice Option.none (some u) Option.none pp) pos) :=
  .of rfl fun A env envs ρ hs ha σ ow s Qa Ea Q E w ok kv kx => by
    refine Subscript_ (he.ev A env envs ρ hs ha σ ow s _ Ea _ E w ok (fun va a σ' ow' s' z st g r => ?_) kx)
    refine wpAny_Slice (wpAny_pure (hi.ev A env envs ρ hs ha σ' ow' s' _ Ea _ E z (ok.stp st g) (fun vb b σ'' ow'' s'' z' st' g' r' => wpAny_pure ?_) (kx.stp st g)))
    have r1 := st'.vr r
    obtain ⟨xs, i, rfl, rfl, ⟨h0, h1⟩, z'⟩ := z'
    cases r' with | int _ t' =>
    have q : ∀ b o', s''.heap.get? b = some o' → (s''.heap.push { cls := .type "slice", data := .fields #[.none, .int i t', .none] }).get? b = some o' := fun _ _ e => Heap.get?_push_of_some _ e
    have r2 := VR.push (o := { cls := .type "slice", data := .fields #[.none, .int i t', .none] }) r1
    have g2 := g'.ext q s''.toks
    have k2 := ((kv.stp st).stp st').stp (Stp.ext q s''.toks)
    cases r2 with | tup it off rr =>
    rename_i t us
    obtain ⟨j, rfl⟩ := Int.eq_ofNat_of_zero_le h0
    have hlen := rr.length
    have hz := it.1
    have hsl : (s''.heap.push { cls := .type "slice", data := .fields #[.none, .int (j : Int) t', .none] }).IsSliceOf s''.heap.objs.size .none (.int (j : Int) t') .none := ⟨_, Heap.get?_push_size _ rfl, rfl, rfl⟩
    refine tail_any (ops := [.ref _, _]) it.isTuple.typeIs slot_tuple_getitem.lookup (kX (items := us.toArray) ?_ hsl (by rw [List.size_toArray]; omega) ?_ (by rw [List.size_toArray]; exact hz)) rfl
    · exact it.isTuple
    · obtain ⟨hh, gg, dd, tt, oo⟩ := s''
      have e : us.toArray.toList.take j = us.take j := rfl
      rw [e]
      exact k2.pushed g2 tt z' (.tup ⟨by rw [List.length_take]; omega, _, Heap.get?_push_size _ rfl⟩ g2.newZ ((rr.take j).kp (fun _ _ e _ => Heap.get?_push_of_some _ e) (Zg.refl _ _)))
end
section
variable {σ : St} {Q : PQ}
theorem yB {xs : List AV} {i : Int} : pP (.tup xs) (.int i) σ Q = ((0 ≤ i ∧ i < xs.length) ∧ Q (.tup (xs.take i.toNat)) σ) := propext ⟨fun ⟨_, _, e1, e2, q⟩ => by cases e1; cases e2; exact q, fun q => ⟨_, _, rfl, rfl, q⟩⟩
end
end Ap
end
section
namespace Ap
open PySem PySem.Calls PyProof.Rows
noncomputable def pS (xs ys : List AV) : List AV := (xs.zip ys).map fun p => .tup [p.1, p.2]
noncomputable def kXZ (KX : List AV → (St → Prop) → St → Prop) : List AV → St → Prop := fun vs σ => ∃ a b xs ys, vs = [.obj a, .obj b] ∧ σ a = some (.list xs) ∧ σ b = some (.list ys) ∧ KX (pS xs ys) (fun σ => σ a = some (.list xs) ∧ σ b = some (.list ys)) σ
noncomputable def xI (es : WL) : WX := fun ρ σ KX E => es ρ σ (kXZ KX) E
noncomputable def ZS (z TI TO i1 i2 l1 l2 : Addr) (i : Nat) (h : Heap) : Prop := IsZip h z TI TO .none ∧ IsPair h TI (.ref i1) (.ref i2) ∧ (∃ a b, IsPair h TO a b) ∧ h.IsListIter i1 l1 i ∧ h.IsListIter i2 l2 i
theorem ZS.keep {z TI TO i1 i2 l1 l2 : Addr} {i : Nat} {h h' : Heap} (x : ZS z TI TO i1 i2 l1 l2 i h) (k : ∀ b ∈ [z, TO, TI, i1, i2], ∀ o, h.get? b = some o → h'.get? b = some o) : ZS z TI TO i1 i2 l1 l2 i h' := by
  obtain ⟨hz, hTI, ⟨a, b, hTO⟩, h1, h2⟩ := x
  exact ⟨k z (by simp) _ hz, k TI (by simp) _ hTI, ⟨a, b, k TO (by simp) _ hTO⟩, h1.at fun o e => k i1 (by simp) o e, h2.at fun o e => k i2 (by simp) o e⟩
theorem yD {xs ys : List AV} {i : Nat} {x : AV} (h : (pS xs ys)[i]? = some x) : ∃ a b, xs[i]? = some a ∧ ys[i]? = some b ∧ x = .tup [a, b] := by
  unfold pS at h
  rw [List.getElem?_map, Option.map_eq_some_iff] at h
  obtain ⟨p, hp, rfl⟩ := h
  rw [List.getElem?_zip_eq_some] at hp
  exact ⟨p.1, p.2, hp.1, hp.2, rfl⟩
theorem qv (xs ys : List AV) : (pS xs ys).length = min xs.length ys.length := by unfold pS; rw [List.length_map, List.length_zip]
section
variable {C : Cx} {A : Around} {q : Bool} {V : Vo}
theorem It.zipO (hh : A.handled = Option.none) {z TI TO i1 i2 l1 l2 : Addr} (D : ZipApart z TI TO i1 i2 l1 l2) {xs ys : List AV} {elts : List Expr} {kk : Nat} {np : Pos} :
    It C A q (.Tuple elts kk np) V z [z, TO, TI, i1, i2] (pS xs ys) (fun σ => σ l1 = some (.list xs) ∧ σ l2 = some (.list ys)) (fun i σ ow s => ZS z TI TO i1 i2 l1 l2 i s.heap) where
  step := fun X i σ ow s σ' ow' s' h g x g' _ => h.keep fun b m o e => jS g m x e
  next := fun i y σ ow s Q E hy h g hG K => by
    obtain ⟨us, li1, r1⟩ := g.store _ _ hG.1
    obtain ⟨ws, li2, r2⟩ := g.store _ _ hG.2
    obtain ⟨a, b, ha, hb, rfl⟩ := yD hy
    obtain ⟨u, hu, ru⟩ := r1.get i a ha
    obtain ⟨v, hv, rv⟩ := r2.get i b hb
    obtain ⟨hz, hTI, ⟨a0, b0, hTO⟩, h1, h2⟩ := h
    have W := WalksT.zip2 (prog := C.prog) (w := C.w) (A := A) hh z TI TO i1 i2 l1 l2 D us.toArray ws.toArray
    refine wpAny_pyNext_zip_item D hz hTI hTO h1 h2 li1.isList li2.isList (x := u) (y := v) (by simpa using hu) (by simpa using hv) fun h' a1 a2 a3 a4 a5 a6 hk => ?_
    have ltz : ∀ {c o}, s.heap.get? c = some o → s.heap.objs.size ≠ c := fun e => Nat.ne_of_gt (Heap.lt_size e)
    have l1k : h'.IsList l1 us.toArray := li1.isList.at fun o e => hk _ o D.l1z D.l1TO D.l1i1 D.l1i2 e
    have l2k : h'.IsList l2 ws.toArray := li2.isList.at fun o e => hk _ o D.l2z D.l2TO D.l2i1 D.l2i2 e
    refine W.go elts kk np i s.heap.objs.size { s with heap := h' } _ E ⟨a1, hk _ _ D.TIz D.TITO D.TIi1 D.TIi2 hTI, ⟨_, _, a2⟩, a3, a4, l1k, l2k, ltz hz, ltz hTO, (by obtain ⟨_, e, _⟩ := h1; exact ltz e), (by obtain ⟨_, e, _⟩ := h2; exact ltz e)⟩ fun h₂ hS hk₂ => ?_
    obtain ⟨z1, z2, z3, z4, z5, _, _⟩ := hS
    have hk' : ∀ b o, b ∉ [z, TO, TI, i1, i2] → s.heap.get? b = some o → h₂.get? b = some o := fun b o nb e => hk₂ b o (fun m => nb (by simp at m ⊢; rcases m with m | m | m | m <;> simp [m])) (hk b o (fun m => nb (by simp [m])) (fun m => nb (by simp [m])) (fun m => nb (by simp [m])) (fun m => nb (by simp [m])) e)
    have hK : Kp (Zs σ ow (zss (V.plus [z, TO, TI, i1, i2]))) s.heap h₂ := fun b o e nb => hk' b o (fun m => nb (.inr (Vo.plus_wr m))) e
    have nT : s.heap.get? s.heap.objs.size = Option.none := Heap.fresh _
    have nZ : ¬ Zs σ ow (zss (V.plus [z, TO, TI, i1, i2])) s.heap.objs.size := by
      rintro (zz | zz)
      · obtain ⟨o, e⟩ := g.live zz
        rw [nT] at e; cases e
      · obtain ⟨_, o, e⟩ := g.mem _ zz
        rw [nT] at e; cases e
    have hT' : IsT h₂ s.heap.objs.size [u, v] := ⟨by simp, 0, hk₂ _ _ (by
      have := ltz hz; have := ltz hTO
      have q1 : s.heap.objs.size ≠ i1 := by obtain ⟨_, e, _⟩ := h1; exact ltz e
      have q2 : s.heap.objs.size ≠ i2 := by obtain ⟨_, e, _⟩ := h2; exact ltz e
      simp [*]) a5⟩
    refine K (.ref s.heap.objs.size) h₂ s.toks (.tup hT' nZ (.cons (ru.kp hK (Zg.refl _ _)) (.cons (rv.kp hK (Zg.refl _ _)) .nil))) ⟨z1, z2, z3, z4, z5⟩ hk' fun b m => ?_
    obtain ⟨ax, bx, z3⟩ := z3
    obtain ⟨o4, z4, _⟩ := z4
    obtain ⟨o5, z5, _⟩ := z5
    simp only [List.mem_cons, List.not_mem_nil, or_false] at m
    rcases m with rfl | rfl | rfl | rfl | rfl
    · exact ⟨_, z1⟩
    · exact ⟨_, z3⟩
    · exact ⟨_, z2⟩
    · exact ⟨_, z4⟩
    · exact ⟨_, z5⟩
  done := fun σ ow s Q E h g hk hG K => by
    obtain ⟨us, li1, r1⟩ := g.store _ _ hG.1
    obtain ⟨ws, li2, r2⟩ := g.store _ _ hG.2
    obtain ⟨hz, hTI, hTO, h1, h2⟩ := h
    have e : (pS xs ys).length = min us.toArray.size ws.toArray.size := by rw [qv, List.size_toArray, List.size_toArray, r1.length, r2.length]
    rw [e] at h1 h2
    have W := WalksT.zip2 (prog := C.prog) (w := C.w) (A := A) hh z TI TO i1 i2 l1 l2 D us.toArray ws.toArray
    refine W.done s _ E ⟨hz, hTI, hTO, h1, h2, li1.isList, li2.isList⟩ fun h' tk hk => K h' tk fun b o nb e => hk b o (fun m => nb (by simp at m ⊢; rcases m with m | m | m | m <;> simp [m])) e
  move := fun i σ ow s h' tk h g k => h.keep fun b m o e => k b o (fun _ => m) e
  self := fun i σ ow s Q E h g K => wpAny_pyIter_zip h.1 K
end
section
variable {C : Cx} {T : Tabs} {P : Prg} {d : Nat} {sc : Scope} {nms : List Str}
theorem SrcE.zip (X : CxOk C T P) {n : Str} {np tp pos : Pos} {elts : List Expr} {kk : Nat} {es : WL} {xs : List Expr} (h : BothL C d sc nms false es xs) (hr : n = (Str.ofString "zip")) (hn : n ∈ T.bltN) (h3 : gl sc n = true) :
    SrcE C d sc nms false (.Tuple elts kk tp) (.Call (.Name n np) xs [] pos) (xI es) where
  snd := fun A env V ρ hs ha σ ow s K Ea Q E w ok kx hQ => by
    obtain ⟨g1, g2, g3⟩ := eT h3
    have hboot : bootBuiltins n = some (.type "zip") := by rw [hr]; decide +kernel
    refine wpAny_Call_ofName (bname X (by unfold Env.kindOf; rw [hs]; exact g1) g2 ok hn g3 hboot ?_)
    refine PyProof.Rows.callWith_type (bY h.stars) (bS h.stars (h.snd hs ha σ ow s _ Ea _ E w ok (fun vs avs σ' ow' s' z st g r => ?_) kx))
    obtain ⟨l1, l2, as, bs, rfl, e1, e2, z⟩ := z
    have hh := ok.hnd.none
    obtain ⟨r, hlr⟩ := r
    clear hlr
    cases r with | cons r1 r2 =>
    cases r2 with | cons r2 r3 =>
    cases r3
    cases r1
    cases r2
    obtain ⟨us, li1, rr1⟩ := g.store _ _ e1
    obtain ⟨ws, li2, rr2⟩ := g.store _ _ e2
    obtain ⟨hz1, n1, x1⟩ := id li1
    obtain ⟨hz2, n2, x2⟩ := id li2
    obtain ⟨hp, gg, dd, tt, oo⟩ := s'
    refine call_zip_2 li1.isList li2.isList fun h' q1 q2 q3 q4 q5 q6 gr => ?_
    have D := PySem.W.ktu_apart hp.objs.size l1 l2 (Heap.lt_size x1) (Heap.lt_size x2)
    have frI : ∀ c, hp.objs.size ≤ c → hp.get? c = Option.none := fun c hc => Heap.get?_none_of_le hc
    refine wpAny_pyIter_zip q1 ?_
    have zs : ZS (hp.objs.size + 4) (hp.objs.size + 2) (hp.objs.size + 3) hp.objs.size (hp.objs.size + 1) l1 l2 0 h' := ⟨q1, q2, ⟨_, _, q3⟩, q4, q5⟩
    have fr : ∀ c ∈ [hp.objs.size + 4, hp.objs.size + 3, hp.objs.size + 2, hp.objs.size, hp.objs.size + 1], hp.get? c = Option.none ∧ ∃ o, h'.get? c = some o := fun c m => by
      obtain ⟨o4, y4, _⟩ := q4
      obtain ⟨o5, y5, _⟩ := q5
      simp only [List.mem_cons, List.not_mem_nil, or_false] at m
      rcases m with rfl | rfl | rfl | rfl | rfl
      · exact ⟨frI _ (Nat.le_add_right _ _), _, q1⟩
      · exact ⟨frI _ (Nat.le_add_right _ _), _, q3⟩
      · exact ⟨frI _ (Nat.le_add_right _ _), _, q2⟩
      · exact ⟨frI _ (Nat.le_refl _), _, y4⟩
      · exact ⟨frI _ (Nat.le_add_right _ _), _, y5⟩
    have ko := (ok.stp st g).open_ (h' := h') (t := tt) (wr := [hp.objs.size + 4, hp.objs.size + 3, hp.objs.size + 2, hp.objs.size, hp.objs.size + 1]) gr fr
    have hlen := rr1.length
    refine hQ (hp.objs.size + 4) _ _ _ (fun V i σ ow s => ZS (hp.objs.size + 4) (hp.objs.size + 2) (hp.objs.size + 3) hp.objs.size (hp.objs.size + 1) l1 l2 i s.heap) σ' ow' _ z ⟨fun V => It.zipO hh D, fun V ex i σ ow s h' t h fr gr => h.keep fun b _ o e => gr b o e⟩ (st.trans (Stp.ext (s := ⟨hp, gg, dd, tt, oo⟩) gr tt)) ko zs (fun c m => st.back rfl g c (fr c m).1) ?_
    rw [qv, hlen]
    exact Nat.le_trans (Nat.min_le_left _ _) hz1
end
section
variable {σ : St} {E : PE} {ρ : Loc} {es : WL} {KX : List AV → (St → Prop) → St → Prop}
theorem Aj : xI es ρ σ KX E = es ρ σ (kXZ KX) E := rfl
theorem Br {a b : Nat} {xs ys : List AV} (h1 : σ a = some (.list xs)) (h2 : σ b = some (.list ys)) : kXZ KX [.obj a, .obj b] σ = KX (pS xs ys) (fun σ => σ a = some (.list xs) ∧ σ b = some (.list ys)) σ := propext ⟨fun ⟨_, _, _, _, e, e1, e2, q⟩ => by cases e; rw [h1] at e1; rw [h2] at e2; cases e1; cases e2; exact q, fun q => ⟨_, _, _, _, rfl, h1, h2, q⟩⟩
end
end Ap
end
section
namespace Ap
open PySem
section
variable {ρ r : Loc} {σ : St} {Q : PQ} {E : PE} {v : AV} {a0 a1 a2 a3 a4 a5 a6 a7 a8 a9 a10 a11 a12 a13 a14 a15 a16 a17 : Option AV}
theorem aN : aa 0 (some v :: r) σ Q E = Q v σ := rfl
theorem bG : aa 1 (a0 :: some v :: r) σ Q E = Q v σ := rfl
theorem cI : aa 2 (a0 :: a1 :: some v :: r) σ Q E = Q v σ := rfl
theorem dO : aa 3 (a0 :: a1 :: a2 :: some v :: r) σ Q E = Q v σ := rfl
theorem fG : aa 4 (a0 :: a1 :: a2 :: a3 :: some v :: r) σ Q E = Q v σ := rfl
theorem kZ : aa 5 (a0 :: a1 :: a2 :: a3 :: a4 :: some v :: r) σ Q E = Q v σ := rfl
theorem gZ : aa 6 (a0 :: a1 :: a2 :: a3 :: a4 :: a5 :: some v :: r) σ Q E = Q v σ := rfl
theorem iY : aa 7 (a0 :: a1 :: a2 :: a3 :: a4 :: a5 :: a6 :: some v :: r) σ Q E = Q v σ := rfl
theorem ni : aa 8 (a0 :: a1 :: a2 :: a3 :: a4 :: a5 :: a6 :: a7 :: some v :: r) σ Q E = Q v σ := rfl
theorem nW : aa 9 (a0 :: a1 :: a2 :: a3 :: a4 :: a5 :: a6 :: a7 :: a8 :: some v :: r) σ Q E = Q v σ := rfl
theorem uj : aa 10 (a0 :: a1 :: a2 :: a3 :: a4 :: a5 :: a6 :: a7 :: a8 :: a9 :: some v :: r) σ Q E = Q v σ := rfl
theorem Bh : aa 11 (a0 :: a1 :: a2 :: a3 :: a4 :: a5 :: a6 :: a7 :: a8 :: a9 :: a10 :: some v :: r) σ Q E = Q v σ := rfl
theorem sU : setL (a0 :: a1 :: r) 1 v = a0 :: some v :: r := rfl
theorem nU : setL (a0 :: a1 :: a2 :: r) 2 v = a0 :: a1 :: some v :: r := rfl
theorem qi : setL (a0 :: a1 :: a2 :: a3 :: r) 3 v = a0 :: a1 :: a2 :: some v :: r := rfl
theorem ri : setL (a0 :: a1 :: a2 :: a3 :: a4 :: r) 4 v = a0 :: a1 :: a2 :: a3 :: some v :: r := rfl
theorem qK : setL (a0 :: a1 :: a2 :: a3 :: a4 :: a5 :: r) 5 v = a0 :: a1 :: a2 :: a3 :: a4 :: some v :: r := rfl
theorem xr : setL (a0 :: a1 :: a2 :: a3 :: a4 :: a5 :: a6 :: r) 6 v = a0 :: a1 :: a2 :: a3 :: a4 :: a5 :: some v :: r := rfl
theorem uq : setL (a0 :: a1 :: a2 :: a3 :: a4 :: a5 :: a6 :: a7 :: r) 7 v = a0 :: a1 :: a2 :: a3 :: a4 :: a5 :: a6 :: some v :: r := rfl
theorem wC : setL (a0 :: a1 :: a2 :: a3 :: a4 :: a5 :: a6 :: a7 :: a8 :: r) 8 v = a0 :: a1 :: a2 :: a3 :: a4 :: a5 :: a6 :: a7 :: some v :: r := rfl
theorem oP : setL (a0 :: a1 :: a2 :: a3 :: a4 :: a5 :: a6 :: a7 :: a8 :: a9 :: r) 9 v = a0 :: a1 :: a2 :: a3 :: a4 :: a5 :: a6 :: a7 :: a8 :: some v :: r := rfl
theorem AW : setL (a0 :: a1 :: a2 :: a3 :: a4 :: a5 :: a6 :: a7 :: a8 :: a9 :: a10 :: r) 10 v = a0 :: a1 :: a2 :: a3 :: a4 :: a5 :: a6 :: a7 :: a8 :: a9 :: some v :: r := rfl
theorem Bm : setL (a0 :: a1 :: a2 :: a3 :: a4 :: a5 :: a6 :: a7 :: a8 :: a9 :: a10 :: a11 :: r) 11 v = a0 :: a1 :: a2 :: a3 :: a4 :: a5 :: a6 :: a7 :: a8 :: a9 :: a10 :: some v :: r := rfl
end
noncomputable def wNo : WS := fun _ _ _ _ => False
theorem BothB.no {C : Cx} {d : Nat} {sc : Scope} {nms : List Str} {q : Bool} {x : List Stmt} : BothB C d sc nms q wNo x := ⟨fun _ _ _ _ _ _ _ _ _ _ _ _ _ _ _ w => False.elim w⟩
end Ap
end
section
namespace Ap.L08
open PySem
noncomputable def clss : List ClsI := [⟨Option.none, [], [0]⟩, ⟨Option.none, [], [1, 0]⟩, ⟨Option.none, [], [2, 0]⟩, ⟨Option.none, [], [3, 0]⟩, ⟨Option.none, [], [4, 0]⟩, ⟨Option.none, [], [5, 0]⟩, ⟨Option.none, [], [6, 0]⟩, ⟨some 7, [(31, 8), (23, 9), (21, 10), (24, 11)], []⟩, ⟨some 12, [(20, 13), (22, 14), (18, 15)], []⟩, ⟨some 16, [(32, 17), (25, 18), (19, 19), (33, 20)], []⟩, ⟨some 23, [(26, 24), (29, 25), (17, 26), (27, 27), (28, 28), (34, 29), (30, 30)], []⟩]
noncomputable def w0 (F : Calls) : WS := wNo
noncomputable def w1 (F : Calls) : WS := (ad (bI (vBl (aX true (vO1 (nY .int) (aa 0)) (aX true (vO1 dY (vO1 (nY .bool) (aa 0))) (aX true (bK (aa 1) (aM cLe (aa 0) (aM cLe (aa 2) bH))) (cU true)))))) ap)
noncomputable def w2 (F : Calls) : WS := (ad (bP (vBl (aX false (vO1 dY (vO1 (nY .tuple) (aa 0))) (aX false (bK (vON qS (ac (aa 0) ao)) (aM cNe (vC (.int 4)) bH)) (aX false (vO1 dY (aT F 1 (ac (vO2 aV (aa 0) (vC (.int 0))) (ac (vC (.int 1)) (ac (vC (.int 20)) ao))))) (cU false))))) (ad (bI (vC (.bool false))) ap) ap) (ad (bP (vO1 dY (aT F 1 (ac (vO2 aV (aa 0) (vC (.int 1))) (ac (vC (.int 1)) (ac (vO2 aV (aa 0) (vC (.int 0))) ao))))) (ad (bI (vC (.bool false))) ap) ap) (ad (bI (vBl (aX true (aT F 1 (ac (vO2 aV (aa 0) (vC (.int 2))) (ac (vC (.int 0)) (ac (vC (.int 20)) ao)))) (aX true (aT F 1 (ac (vO2 aV (aa 0) (vC (.int 3))) (ac (vC (.int 0)) (ac (vC (.int 20)) ao)))) (cU true))))) ap)))
noncomputable def w3 (F : Calls) : WS := (ad (bP (vO1 dY (aT F 2 (ac (aa 0) ao))) (ad (jh 1) ap) ap) ap)
noncomputable def w4 (F : Calls) : WS := (ad (bP (vO1 dY (aT F 1 (ac (aa 0) (ac (vC (.int 1)) (ac (vC (.int 200)) ao))))) (ad (jh 2) ap) ap) ap)
noncomputable def w5 (F : Calls) : WS := (ad (bP (vBl (aX false (vO1 dY (vO1 qC (aa 0))) (aX false (bK (vON qR (ac (aa 0) ao)) (aM cGt (vC (.int 400)) bH)) (cU false)))) (ad (jh 3) ap) ap) (ad (vQ 1 (aa 0) (ad (bP (vBl (aX false (vO1 dY (vO1 (nY .str) (aa 1))) (aX false (bK (vON nu (ac (aa 1) ao)) (aM cGt (vC (.int 40)) bH)) (cU false)))) (ad (jh 3) ap) ap) ap)) ap))
noncomputable def w6 (F : Calls) : WS := (ad (dz (aT F 3 (ac (aa 0) ao))) (ad (bI (vO2 cV (vO2 cV (vO2 aV (aa 0) (vC (.int 0))) (vO2 aV (aa 0) (vC (.int 1)))) (vON mJ (ac (vO2 aV (aa 0) (vC (.int 2))) (ac (vO2 aV (aa 0) (vC (.int 3))) ao))))) ap))
noncomputable def w7 (F : Calls) : WS := (ad (aL (aa 0) 7 0 (aa 1)) (ad (aL (aa 0) 7 1 (ee true ao)) ap))
noncomputable def w8 (F : Calls) : WS := (ad (bI (vON mJ (ac (vC (.int 0)) (ac (vO2 iX (vO2 iX (vON kz (ac (vO1 (ay 7 1) (aa 0)) ao)) (vC (.int 1))) (vO1 (ay 7 0) (aa 0))) ao)))) ap)
noncomputable def w9 (F : Calls) : WS := (ad (dz (vBm rcL dv (vO1 (ay 7 1) (aa 0)) (ac (aa 1) ao))) (ad (bI (vO2 iX (vON kz (ac (vO1 (ay 7 1) (aa 0)) ao)) (vC (.int 1)))) ap))
noncomputable def w10 (F : Calls) : WS := (ad (bI (rh false (ac (bd F 7 31 8 (aa 0) ao) (ac (vON kz (ac (vO1 (ay 7 1) (aa 0)) ao)) ao)))) ap)
noncomputable def w11 (F : Calls) : WS := (ad (bP (vO1 dY (aT F 1 (ac (aa 1) (ac (bd F 7 31 8 (aa 0) ao) (ac (vO2 iX (vON kz (ac (vO1 (ay 7 1) (aa 0)) ao)) (vC (.int 1))) ao))))) (ad (jh 6) ap) ap) (ad (bI (vO2 cH (vO1 (ay 7 1) (aa 0)) (aa 1))) ap))
noncomputable def w12 (F : Calls) : WS := (ad (aL (aa 0) 8 2 (aa 1)) (ad (aL (aa 0) 8 3 (aa 2)) (ad (aL (aa 0) 8 4 (aa 3)) (ad (aL (aa 0) 8 5 (vC (.int 0))) (ad (aL (aa 0) 8 6 (vC (.int 0))) ap)))))
noncomputable def w13 (F : Calls) : WS := (ad (bI (dj (ac (vO1 (ay 8 5) (aa 0)) (ac (vO1 (ay 8 6) (aa 0)) ao)))) ap)
noncomputable def w14 (F : Calls) : WS := (ad (au 2 (vON tA (ac (vO1 (ay 8 6) (aa 0)) (ac (vO2 iX (vO2 cV (vO1 (ay 8 5) (aa 0)) (vO1 (ay 8 2) (aa 0))) (vC (.int 1))) (ac (vO2 iX (vO1 (ay 8 4) (aa 0)) (vC (.int 1))) ao))))) (ad (bP (vO1 dY (aT F 1 (ac (aa 1) (ac (vO1 (ay 8 5) (aa 0)) (ac (aa 2) ao))))) (ad (jh 5) ap) ap) (ad (bP (bK (aa 1) (aM cEq (vO1 (ay 8 6) (aa 0)) bH)) (ad (aL (aa 0) 8 6 (vO2 cV (aa 1) (vC (.int 1)))) ap) ap) (ad (bI (vO2 bv (aa 1) (vO1 (ay 8 3) (aa 0)))) ap))))
noncomputable def w15 (F : Calls) : WS := (ad (au 2 (vO2 bv (vO2 iX (aa 1) (vO1 (ay 8 5) (aa 0))) (vO1 (ay 8 3) (aa 0)))) (ad (bP (bK (vO2 cV (vO1 (ay 8 5) (aa 0)) (aa 2)) (aM cLe (vO1 (ay 8 6) (aa 0)) bH)) (ad (aL (aa 0) 8 5 (vO2 cV (vO1 (ay 8 5) (aa 0)) (aa 2))) ap) ap) ap))
noncomputable def w16 (F : Calls) : WS := (ad (aL (aa 0) 9 7 (aa 1)) (ad (aL (aa 0) 9 3 (aa 2)) (ad (aL (aa 0) 9 8 (vC (.int 0))) (ad (aL (aa 0) 9 9 (ee true ao)) (ad (aL (aa 0) 9 10 wd) ap)))))
noncomputable def w17 (F : Calls) : WS := (ad (au 3 (vO2 bv (vO2 iX (aa 1) (vO1 (ay 9 8) (aa 0))) (vO1 (ay 9 3) (aa 0)))) (ad (bP (vBl (aX true (bK (aa 3) (aM cLt (vO1 (ay 9 7) (aa 0)) bH)) (aX true (bK (vO2 cV (vO1 (ay 9 8) (aa 0)) (aa 3)) (aM vx (vO1 (ay 9 10) (aa 0)) bH)) (cU true)))) (ad (vo (vO1 (ay 9 10) (aa 0)) (vO2 cV (vO1 (ay 9 8) (aa 0)) (aa 3)) (aa 2)) ap) ap) (ad (vc (bK (vO1 (ay 9 8) (aa 0)) (aM xX (vO1 (ay 9 10) (aa 0)) bH)) (ad (dz (vBm rcL dv (vO1 (ay 9 9) (aa 0)) (ac (vBm rcD wK (vO1 (ay 9 10) (aa 0)) (ac (vO1 (ay 9 8) (aa 0)) ao)) ao))) (ad (aL (aa 0) 9 8 (vO2 cV (vO1 (ay 9 8) (aa 0)) (vC (.int 1)))) ap))) (ad (bI (vO2 bv (vO1 (ay 9 8) (aa 0)) (vO1 (ay 9 3) (aa 0)))) ap))))
noncomputable def w18 (F : Calls) : WS := (ad (bI (vO1 (ay 9 8) (aa 0))) ap)
noncomputable def w19 (F : Calls) : WS := (ad (bI (vON (oList false) (ac (vO1 (ay 9 9) (aa 0)) ao))) ap)
noncomputable def w20 (F : Calls) : WS := wNo
noncomputable def w21 (F : Calls) : WS := (ad (bP (vBl (aX false (vO1 dY (vO1 (nY .tuple) (aa 0))) (aX false (bK (vON qS (ac (aa 0) ao)) (aM cNe (vC (.int 2)) bH)) (aX false (vO1 dY (vO1 (nY .str) (vO2 aV (aa 0) (vC (.int 0))))) (cU false))))) (ad (bI (vC (.bool false))) ap) ap) (ad (bI (vBl (aX true (bK (vO2 aV (aa 0) (vC (.int 0))) (aM vt (vC (.tup [(.str (Str.ofString "send")), (.str (Str.ofString "hand")), (.str (Str.ofString "tell"))])) bH)) (aX true (aT F 1 (ac (vO2 aV (aa 0) (vC (.int 1))) (ac (vC (.int 0)) (ac (vC (.int 999999)) ao)))) (cU true))))) ap))
noncomputable def w22 (F : Calls) : WS := (ad (bP (vO1 dY (aT F 21 (ac (aa 0) ao))) (ad (jh 4) ap) ap) ap)
noncomputable def w23 (F : Calls) : WS := (ad (dz (aT F 3 (ac (aa 1) ao))) (ad (dz (aT F 4 (ac (aa 2) ao))) (ad (dz (aT F 5 (ac (aa 3) ao))) (ad (aL (aa 0) 10 11 (aa 1)) (ad (aL (aa 0) 10 3 (aa 2)) (ad (aL (aa 0) 10 12 (vON (oList false) (ac (aa 3) ao))) (ad (aL (aa 0) 10 13 (nQ F 8 12 (ac (vO2 aV (aa 1) (vC (.int 0))) (ac (aa 2) (ac (vON qR (ac (aa 3) ao)) ao))))) (ad (aL (aa 0) 10 14 (nQ F 9 16 (ac (vO2 aV (aa 1) (vC (.int 1))) (ac (aa 2) ao)))) (ad (aL (aa 0) 10 15 (nQ F 7 7 (ac (vO2 aV (aa 1) (vC (.int 2))) ao))) (ad (aL (aa 0) 10 16 (nQ F 7 7 (ac (vO2 aV (aa 1) (vC (.int 3))) ao))) ap))))))))))
noncomputable def w24 (F : Calls) : WS := (ad (dz (aT F 22 (ac (aa 1) ao))) (ad (bP (bK (vO2 aV (aa 1) (vC (.int 0))) (aM cEq (vC (.str (Str.ofString "send"))) bH)) (ad (au 2 (bd F 8 22 14 (vO1 (ay 10 13) (aa 0)) (ac (vO2 aV (aa 1) (vC (.int 1))) ao))) (ad (bI (bd F 7 23 9 (vO1 (ay 10 15) (aa 0)) (ac (dj (ac (aa 2) (ac (vO2 gY (vO1 (ay 10 12) (aa 0)) (vO2 aV (aa 1) (vC (.int 1)))) ao))) ao))) ap)) ap) (ad (bP (bK (vO2 aV (aa 1) (vC (.int 0))) (aM cEq (vC (.str (Str.ofString "hand"))) bH)) (ad (uY [2, 3] (bd F 7 24 11 (vO1 (ay 10 15) (aa 0)) (ac (vO2 aV (aa 1) (vC (.int 1))) ao))) (ad (bI (bd F 7 23 9 (vO1 (ay 10 16) (aa 0)) (ac (bd F 9 32 17 (vO1 (ay 10 14) (aa 0)) (ac (aa 2) (ac (aa 3) ao))) ao))) ap)) ap) (ad (dz (bd F 8 18 15 (vO1 (ay 10 13) (aa 0)) (ac (bd F 7 24 11 (vO1 (ay 10 16) (aa 0)) (ac (vO2 aV (aa 1) (vC (.int 1))) ao)) ao))) (ad (bI (vO2 aV (bd F 8 20 13 (vO1 (ay 10 13) (aa 0)) ao) (vC (.int 0)))) ap)))))
noncomputable def w25 (F : Calls) : WS := (ad (bI (bd F 9 19 19 (vO1 (ay 10 14) (aa 0)) ao)) ap)
noncomputable def w26 (F : Calls) : WS := (ad (uY [1, 2] (bd F 8 20 13 (vO1 (ay 10 13) (aa 0)) ao)) (ad (bI (dj (ac (aa 1) (ac (aa 2) (ac (bd F 9 25 18 (vO1 (ay 10 14) (aa 0)) ao) ao))))) ap))
noncomputable def w27 (F : Calls) : WS := (ad (au 1 (ee true ao)) (ad (oj 2 (cZ (bd F 7 21 10 (vO1 (ay 10 15) (aa 0)) ao)) (ad (uY [3, 4] (bd F 7 24 11 (vO1 (ay 10 15) (aa 0)) (ac (aa 2) ao))) (ad (dz (vBm rcL dv (aa 1) (ac (dj (ac (aa 2) (ac (aa 3) (ac (aa 4) ao)))) ao))) ap))) (ad (bI (aa 1)) ap)))
noncomputable def w28 (F : Calls) : WS := (ad (bI (cJ true (cZ (bd F 7 21 10 (vO1 (ay 10 16) (aa 0)) ao)) (tb1 1) [0] (dj (ac (aa 1) (ac (bd F 7 24 11 (vO1 (ay 10 16) (aa 0)) (ac (aa 1) ao)) ao))))) ap)
noncomputable def w29 (F : Calls) : WS := wNo
noncomputable def w30 (F : Calls) : WS := (ad (au 1 (nQ F 10 23 (ac (vO1 (ay 10 11) (aa 0)) (ac (vO1 (ay 10 3) (aa 0)) (ac (vO1 (ay 10 12) (aa 0)) ao))))) (ad (aL (vO1 (ay 10 13) (aa 1)) 8 5 (vO1 (ay 8 5) (vO1 (ay 10 13) (aa 0)))) (ad (aL (vO1 (ay 10 13) (aa 1)) 8 6 (vO1 (ay 8 6) (vO1 (ay 10 13) (aa 0)))) (ad (aL (vO1 (ay 10 14) (aa 1)) 9 8 (vO1 (ay 9 8) (vO1 (ay 10 14) (aa 0)))) (ad (aL (vO1 (ay 10 14) (aa 1)) 9 9 (vON (oList true) (ac (vO1 (ay 9 9) (vO1 (ay 10 14) (aa 0))) ao))) (ad (aL (vO1 (ay 10 14) (aa 1)) 9 10 (vON pC (ac (vO1 (ay 9 10) (vO1 (ay 10 14) (aa 0))) ao))) (ad (aL (vO1 (ay 10 15) (aa 1)) 7 1 (vON (oList true) (ac (vO1 (ay 7 1) (vO1 (ay 10 15) (aa 0))) ao))) (ad (aL (vO1 (ay 10 16) (aa 1)) 7 1 (vON (oList true) (ac (vO1 (ay 7 1) (vO1 (ay 10 16) (aa 0))) ao))) (ad (bI (aa 1)) ap)))))))))
noncomputable def w31 (F : Calls) : WS := (ad (bP (bK (aa 1) (aM cLt (vON vU (ac (aa 0) ao)) bH)) (ad (bI (vO2 gY (aa 0) (aa 1))) ap) ap) (ad (bI (vC (.int 0))) ap))
noncomputable def w32 (F : Calls) : WS := (ad (bI (vO2 bv (vO2 cV (vO2 uA (aa 0) (vC (.int 48271))) (vO2 uA (vO2 uA (vC (.int 7919)) (vO2 cV (aa 1) (vC (.int 1)))) (vO2 cV (aa 1) (vC (.int 3))))) (vC (.int 2147483647)))) ap)
noncomputable def w33 (F : Calls) : WS := (ad (au 1 (aT F 32 (ac (aT F 31 (ac (aa 0) (ac (vC (.int 0)) ao))) (ac (vC (.int 0)) ao)))) (ad (au 2 (aT F 32 (ac (aT F 31 (ac (aa 0) (ac (vC (.int 1)) ao))) (ac (vC (.int 1)) ao)))) (ad (au 3 (vO2 cV (vC (.int 1)) (vO2 bv (aa 1) (vC (.int 5))))) (ad (au 4 (vO2 bv (aa 2) (vC (.int 4)))) (ad (au 5 (vO2 bv (vO2 bE (aa 2) (vC (.int 4))) (vC (.int 4)))) (ad (bP (bK (vO2 bv (vO2 bE (aa 1) (vC (.int 5))) (vC (.int 6))) (aM cEq (vC (.int 1)) bH)) (ad (au 3 (vO2 cV (vC (.int 1)) (vO2 bv (vO2 bE (aa 1) (vC (.int 30))) (vC (.int 20))))) ap) ap) (ad (bP (bK (vO2 bv (vO2 bE (aa 2) (vC (.int 16))) (vC (.int 6))) (aM xS (dj (ac (vC (.int 1)) (ac (vC (.int 2)) ao))) bH)) (ad (au 4 (vO2 bv (vO2 bE (aa 2) (vC (.int 96))) (vC (.int 21)))) ap) ap) (ad (bP (bK (vO2 bv (vO2 bE (aa 2) (vC (.int 16))) (vC (.int 6))) (aM cEq (vC (.int 2)) bH)) (ad (au 5 (vO2 bv (vO2 bE (aa 2) (vC (.int 2016))) (vC (.int 21)))) ap) ap) (ad (bP (bK (vO2 bv (vO2 bE (aa 2) (vC (.int 16))) (vC (.int 6))) (aM cGt (vC (.int 3)) bH)) (ad (au 5 (vO2 bv (vO2 bE (aa 2) (vC (.int 96))) (vO2 gY (ee false (ac (vC (.int 21)) (ac (vC (.int 9)) ao))) (vO2 bv (vO2 bE (aa 2) (vC (.int 16))) (vC (.int 2)))))) ap) ap) (ad (bI (dj (ac (aa 3) (ac (vO2 cV (vC (.int 1)) (vO2 bv (vO2 bE (aa 1) (vC (.int 600))) (aa 3))) (ac (aa 4) (ac (aa 5) ao)))))) ap))))))))))
noncomputable def w34 (F : Calls) : WS := (ad (au 3 (vC (.str (Str.ofString " !\"#$&'()*+,-./:;<=>?@ABCDEFGHIJKLMNOPQRSTUVWXYZ[\\]^_abcdefghijklmnopqrstuvwxyz{|}~")))) (ad (au 4 (aT F 32 (ac (aa 0) (ac (vC (.int 5)) ao)))) (ad (au 5 (vBm rcS zi (vC (.str (Str.ofString ""))) (ac (cJ false (mK (ac (vO2 bv (vO2 bE (aa 4) (vC (.int 77))) (vC (.int 39))) ao)) (tb1 8) [3, 4] (vO2 yQ (aa 3) (vO2 bv (vO2 cV (vO2 bE (aa 4) (vC (.int 7))) (vO2 uA (aa 8) (vO2 cV (vC (.int 1)) (vO2 bv (aa 4) (vC (.int 11)))))) (vON nu (ac (aa 3) ao))))) ao))) (ad (au 6 (vO2 bv (vO2 bE (aa 4) (vC (.int 5000))) (vO2 cV (vON nu (ac (aa 5) ao)) (vC (.int 1))))) (ad (au 7 (cJ false (mK (ac (aa 1) ao)) (tb1 8) [2, 5, 6] (vO2 tE (vO2 tE (vO2 tq (aa 5) (aa 6)) (vON tC (ac (vO2 bv (aa 8) (aa 2)) ao))) (vO2 sQ (aa 5) (aa 6))))) (ad (bP (bK (vO2 bv (vO2 bE (aa 4) (vC (.int 200))) (vC (.int 4))) (aM cEq (vC (.int 1)) bH)) (ad (au 7 (cJ false (wf (ac (aa 7) ao)) (tb2 8 9) [2, 4] (vO2 gY (ee false (ac (aa 9) (ac (vC (.str (Str.ofString ""))) ao))) (vON oM (ac (bK (vO2 bv (aa 8) (aa 2)) (aM cEq (vO2 bv (vO2 bE (aa 4) (vC (.int 800))) (aa 2)) bH)) ao))))) ap) ap) (ad (bI (aa 7)) ap)))))))
noncomputable def w35 (F : Calls) : WS := (ad (au 2 (ee false ao)) (ad (oj 3 (mK (ac (vON tQ (ac (aa 1) (ac (vON vU (ac (aa 0) ao)) ao))) ao)) (ad (au 2 (vO2 (wi false) (aa 2) (ee false (ac (dj (ac (vC (.str (Str.ofString "send"))) (ac (aa 3) ao))) (ac (dj (ac (vC (.str (Str.ofString "hand"))) (ac (aa 3) ao))) (ac (dj (ac (vC (.str (Str.ofString "tell"))) (ac (aa 3) ao))) ao)))))) ap)) (ad (bI (aa 2)) ap)))
noncomputable def w36 (F : Calls) : WS := (ad (AA (ad (bI (dj (ac (vC (.str (Str.ofString "told"))) (ac (bd F 10 26 24 (aa 0) (ac (aa 1) ao)) ao)))) ap) (pD clss 5 (ad (bI (dj (ac (vC (.str (Str.ofString "refused"))) (ac (vC (.str (Str.ofString "now"))) ao)))) ap) (pD clss 6 (ad (bI (dj (ac (vC (.str (Str.ofString "refused"))) (ac (vC (.str (Str.ofString "letter"))) ao)))) ap) At))) ap)
noncomputable def w37 (F : Calls) : WS := (ad (uY [3, 4, 5] (bd F 10 17 26 (aa 0) ao)) (ad (au 6 (vO2 bE (aa 2) (vC (.int 8)))) (ad (bP (bK (vO2 bv (aa 2) (vC (.int 8))) (aM cLt (vC (.int 3)) bH)) (ad (bI (dj (ac (vC (.str (Str.ofString "send"))) (ac (vO2 gY (ee false (ac (aa 4) (ac (aa 3) (ac (vO2 cV (aa 3) (vO2 bv (vO2 bE (aa 6) (vC (.int 4))) (vO2 aV (aa 1) (vC (.int 0))))) (ac (vO2 cV (aa 4) (vO2 bv (vO2 bE (aa 6) (vC (.int 4))) (vC (.int 2)))) ao))))) (vO2 bv (aa 6) (vC (.int 4)))) ao)))) ap) ap) (ad (au 7 (vO2 gY (ee false (ac (bd F 10 27 27 (aa 0) ao) (ac (bd F 10 28 28 (aa 0) ao) ao))) (vO2 bE (vO2 bv (aa 2) (vC (.int 8))) (vC (.int 6))))) (ad (bP (bK (aa 7) (aM cEq (ee false ao) bH)) (ad (bI (dj (ac (vC (.str (Str.ofString "hand"))) (ac (vO2 bv (aa 6) (vC (.int 3))) ao)))) ap) ap) (ad (bI (dj (ac (vO2 gY (ee false (ac (vC (.str (Str.ofString "hand"))) (ac (vC (.str (Str.ofString "tell"))) ao))) (vO2 bE (vO2 bv (aa 2) (vC (.int 8))) (vC (.int 6)))) (ac (vON mJ (ac (vC (.int 0)) (ac (vO2 iX (vO2 aV (vO2 cH (aa 7) (vO2 bv (vO2 bE (aa 6) (vC (.int 4))) (vON kz (ac (aa 7) ao)))) (vC (.int 0))) (vON oM (ac (bK (vO2 bv (aa 6) (vC (.int 9))) (aM cEq (vC (.int 1)) bH)) ao))) ao))) ao)))) ap))))))
noncomputable def w38 (F : Calls) : WS := (ad (tF [5, 6] (aa 0)) (ad (bP (bK (aa 4) (aM cEq (vC (.int 2)) bH)) (ad (bI (vC (.bool true))) ap) ap) (ad (bP (vBl (aX false (vBl (aX true (bK (aa 4) (aM cEq (vC (.int 0)) bH)) (aX true (bK (bd F 10 17 26 (aa 5) ao) (aM cNe (bd F 10 17 26 (aa 6) ao) bH)) (cU true)))) (aX false (bK (bd F 10 29 25 (aa 5) ao) (aM cNe (bd F 10 29 25 (aa 6) ao) bH)) (cU false)))) (ad (bI (vC (.bool false))) ap) ap) (ad (qe 7 8 (xI (ac (aa 0) (ac (aa 1) ao))) (ad (bP (bK (cJ false (cZ (bd F 10 27 27 (aa 7) ao)) (tb1 9) [] (vO2 pP (aa 9) (vC (.int 2)))) (aM cNe (cJ false (cZ (bd F 10 27 27 (aa 7) ao)) (tb1 9) [2, 8] (dj (ac (vO2 aV (aa 9) (vC (.int 0))) (ac (vO2 bv (vO2 cH (aa 2) (vO2 aV (aa 9) (vC (.int 0)))) (aa 8)) ao)))) bH)) (ad (bI (vC (.bool false))) ap) ap) (ad (bP (bK (bd F 10 28 28 (aa 7) ao) (aM cNe (cJ false (cZ (bd F 10 28 28 (aa 7) ao)) (tb1 9) [3, 8] (dj (ac (vO2 aV (aa 9) (vC (.int 0))) (ac (vO2 bv (vO2 cH (aa 3) (vO2 aV (aa 9) (vC (.int 0)))) (aa 8)) ao)))) bH)) (ad (bI (vC (.bool false))) ap) ap) ap))) (ad (bP (bK (cJ false (cZ (bd F 10 27 27 (aa 5) ao)) (tb1 9) [] (dj (ac (vO2 aV (aa 9) (vC (.int 0))) (ac (vO2 aV (aa 9) (vC (.int 2))) ao)))) (aM cNe (cJ false (cZ (bd F 10 27 27 (aa 6) ao)) (tb1 9) [] (dj (ac (vO2 aV (aa 9) (vC (.int 0))) (ac (vO2 aV (aa 9) (vC (.int 2))) ao)))) bH)) (ad (bI (vC (.bool false))) ap) ap) (ad (bP (bK (cJ false (cZ (bd F 10 28 28 (aa 5) ao)) (tb1 9) [] (vO2 aV (aa 9) (vC (.int 0)))) (aM cNe (cJ false (cZ (bd F 10 28 28 (aa 6) ao)) (tb1 9) [] (vO2 aV (aa 9) (vC (.int 0)))) bH)) (ad (bI (vC (.bool false))) ap) ap) (ad (bI (bK (bd F 10 17 26 (aa 5) ao) (aM cEq (bd F 10 17 26 (aa 6) ao) bH))) ap)))))))
noncomputable def w39 (F : Calls) : WS := (ad (au 4 (aT F 36 (ac (vO2 cH (aa 0) (vC (.int 0))) (ac (aa 1) ao)))) (ad (bP (bK (aT F 36 (ac (vO2 cH (aa 0) (vC (.int 1))) (ac (aa 1) ao))) (aM cNe (aa 4) bH)) (ad (bI (vC (.bool false))) ap) ap) (ad (bP (vBl (aX true (bK (vO2 aV (aa 4) (vC (.int 0))) (aM cEq (vC (.str (Str.ofString "told"))) bH)) (aX true (bK (vO2 aV (aa 1) (vC (.int 0))) (aM cEq (vC (.str (Str.ofString "send"))) bH)) (cU true)))) (ad (dz (vBm rcL dv (aa 2) (ac (vO2 aV (aa 1) (vC (.int 1))) ao))) ap) ap) (ad (bP (vBl (aX true (bK (vO2 aV (aa 4) (vC (.int 0))) (aM cEq (vC (.str (Str.ofString "told"))) bH)) (aX true (bK (vO2 aV (aa 1) (vC (.int 0))) (aM cEq (vC (.str (Str.ofString "hand"))) bH)) (cU true)))) (ad (dz (vBm rcL dv (aa 3) (ac (vO2 aV (bd F 10 17 26 (vO2 cH (aa 0) (vC (.int 0))) ao) (vC (.int 2))) ao))) ap) ap) (ad (bI (vC (.bool true))) ap)))))
noncomputable def w40 (F : Calls) : WS := (ad (au 1 (aT F 33 (ac (aa 0) ao))) (ad (au 2 (aT F 6 (ac (aa 1) ao))) (ad (au 3 (ee true (ac (vO2 cV (aa 2) (vO2 bv (aT F 31 (ac (aa 0) (ac (vC (.int 2)) ao))) (vC (.int 3)))) (ac (vO2 cV (vO2 cV (aa 2) (vC (.int 1))) (vO2 bv (vO2 bE (aT F 31 (ac (aa 0) (ac (vC (.int 2)) ao))) (vC (.int 3))) (vO2 iX (vC (.int 200)) (aa 2)))) ao)))) (ad (bP (bK (vO2 cH (aa 3) (vC (.int 0))) (aM cEq (vO2 cH (aa 3) (vC (.int 1))) bH)) (ad (om (aa 3) (vC (.int 1)) (vO2 iX (vO2 cH (aa 3) (vC (.int 1))) (vC (.int 1)))) ap) ap) (ad (au 4 (vO2 bv (aT F 31 (ac (aa 0) (ac (vC (.int 4)) ao))) (vC (.int 31)))) (ad (au 5 (aT F 34 (ac (aT F 31 (ac (aa 0) (ac (vC (.int 3)) ao))) (ac (aa 4) (ac (vO2 cV (aa 4) (vC (.int 1))) ao))))) (ad (au 6 (cJ true (cZ (aa 3)) (tb1 11) [1, 5] (nQ F 10 23 (ac (aa 1) (ac (aa 11) (ac (aa 5) ao)))))) (ad (au 7 (ee true ao)) (ad (au 8 (ee true ao)) (ad (bP (bK (vO2 bv (vO2 bE (aT F 31 (ac (aa 0) (ac (vC (.int 4)) ao))) (vC (.int 31))) (vC (.int 2))) (aM cEq (vC (.int 1)) bH)) (ad (oj 9 (cZ (aT F 35 (ac (aa 5) (ac (vO2 bv (vO2 bE (aT F 31 (ac (aa 0) (ac (vC (.int 4)) ao))) (vC (.int 62))) (vC (.int 30))) ao)))) (ad (bP (vBl (aX false (vO1 dY (aT F 39 (ac (aa 6) (ac (aa 9) (ac (aa 7) (ac (aa 8) ao)))))) (aX false (vO1 dY (aT F 38 (ac (aa 6) (ac (aa 3) (ac (aa 7) (ac (aa 8) (ac (vO2 bv (vO2 aV (aa 9) (vC (.int 1))) (vC (.int 3))) ao))))))) (cU false)))) (ad (bI (vC (.bool false))) ap) ap) ap)) ap) ap) (ad (vQ 10 (vO1 (oSl false 5 45) (aa 0)) (ad (bP (vO1 dY (aT F 39 (ac (aa 6) (ac (aT F 37 (ac (vO2 cH (aa 6) (vC (.int 0))) (ac (aa 1) (ac (aa 10) ao)))) (ac (aa 7) (ac (aa 8) ao)))))) (ad (bI (vC (.bool false))) ap) ap) (ad (bP (bK (vO2 bv (vO2 bE (aa 10) (vC (.int 4000))) (vC (.int 7))) (aM cEq (vC (.int 1)) bH)) (ad (om (aa 6) (vC (.int 1)) (bd F 10 30 30 (vO2 cH (aa 6) (vC (.int 1))) ao)) ap) ap) (ad (bP (vO1 dY (aT F 38 (ac (aa 6) (ac (aa 3) (ac (aa 7) (ac (aa 8) (ac (vO2 bv (vO2 bE (aa 10) (vC (.int 640))) (vC (.int 3))) ao))))))) (ad (bI (vC (.bool false))) ap) ap) ap)))) (ad (bI (aT F 38 (ac (aa 6) (ac (aa 3) (ac (aa 7) (ac (aa 8) (ac (vC (.int 0)) ao))))))) ap))))))))))))
noncomputable def fn0 : FnI := ⟨false, 1, 1, w0⟩
noncomputable def fn1 : FnI := ⟨false, 3, 3, w1⟩
noncomputable def fn2 : FnI := ⟨false, 1, 1, w2⟩
noncomputable def fn3 : FnI := ⟨false, 1, 1, w3⟩
noncomputable def fn4 : FnI := ⟨false, 1, 1, w4⟩
noncomputable def fn5 : FnI := ⟨false, 1, 2, w5⟩
noncomputable def fn6 : FnI := ⟨false, 1, 1, w6⟩
noncomputable def fn7 : FnI := ⟨false, 2, 2, w7⟩
noncomputable def fn8 : FnI := ⟨false, 1, 1, w8⟩
noncomputable def fn9 : FnI := ⟨false, 2, 2, w9⟩
noncomputable def wX : FnI := ⟨false, 1, 1, w10⟩
noncomputable def uv : FnI := ⟨false, 2, 2, w11⟩
noncomputable def wO : FnI := ⟨false, 4, 4, w12⟩
noncomputable def yE : FnI := ⟨false, 1, 1, w13⟩
noncomputable def xZ : FnI := ⟨false, 2, 3, w14⟩
noncomputable def xQ : FnI := ⟨false, 2, 3, w15⟩
noncomputable def yJ : FnI := ⟨false, 3, 3, w16⟩
noncomputable def xY : FnI := ⟨false, 3, 4, w17⟩
noncomputable def yi : FnI := ⟨false, 1, 1, w18⟩
noncomputable def xH : FnI := ⟨false, 1, 1, w19⟩
noncomputable def Cb : FnI := ⟨false, 1, 1, w20⟩
noncomputable def xj : FnI := ⟨false, 1, 1, w21⟩
noncomputable def xl : FnI := ⟨false, 1, 1, w22⟩
noncomputable def xD : FnI := ⟨false, 4, 4, w23⟩
noncomputable def kt : FnI := ⟨false, 2, 4, w24⟩
noncomputable def xA : FnI := ⟨false, 1, 1, w25⟩
noncomputable def ym : FnI := ⟨false, 1, 3, w26⟩
noncomputable def xw : FnI := ⟨false, 1, 5, w27⟩
noncomputable def yf : FnI := ⟨false, 1, 2, w28⟩
noncomputable def Cf : FnI := ⟨false, 1, 1, w29⟩
noncomputable def wY : FnI := ⟨false, 1, 2, w30⟩
noncomputable def yr : FnI := ⟨false, 2, 2, w31⟩
noncomputable def yy : FnI := ⟨false, 2, 2, w32⟩
noncomputable def fn33 : FnI := ⟨false, 1, 6, w33⟩
noncomputable def xB : FnI := ⟨false, 3, 10, w34⟩
noncomputable def yu : FnI := ⟨false, 2, 4, w35⟩
noncomputable def xd : FnI := ⟨false, 2, 2, w36⟩
noncomputable def yk : FnI := ⟨false, 3, 8, w37⟩
noncomputable def fn38 : FnI := ⟨false, 5, 10, w38⟩
noncomputable def fn39 : FnI := ⟨false, 4, 5, w39⟩
noncomputable def fn40 : FnI := ⟨false, 1, 12, w40⟩
noncomputable def prg : Prg := ⟨[fn0, fn1, fn2, fn3, fn4, fn5, fn6, fn7, fn8, fn9, wX, uv, wO, yE, xZ, xQ, yJ, xY, yi, xH, Cb, xj, xl, xD, kt, xA, ym, xw, yf, Cf, wY, yr, yy, fn33, xB, yu, xd, yk, fn38, fn39, fn40], clss, []⟩
end Ap.L08
end
section
namespace Ap.L08
open PySem
noncomputable abbrev prog : Program := PySem.Challenge.pw_uf020020_08
noncomputable def gds : List (Str × List Str) := []
noncomputable def gvs : List (Str × List (Str × Str)) := []
noncomputable def globs : List (Str × AV) := [((Str.ofString "MOST_WINDOW"), (.int 20)), ((Str.ofString "MOST_BACK"), (.int 20)), ((Str.ofString "MOST_RING"), (.int 200)), ((Str.ofString "MOST_TEXTS"), (.int 400)), ((Str.ofString "MOST_SIGNS"), (.int 40)), ((Str.ofString "WORDS"), (.tup [(.str (Str.ofString "send")), (.str (Str.ofString "hand")), (.str (Str.ofString "tell"))])), ((Str.ofString "MOST_NUMBER"), (.int 999999))]
noncomputable def nm0 : List Str := [Str.ofString "k"]
noncomputable def nm1 : List Str := [Str.ofString "thing", Str.ofString "low", Str.ofString "high"]
noncomputable def nm2 : List Str := [Str.ofString "thing"]
noncomputable def nm3 : List Str := [Str.ofString "thing"]
noncomputable def nm4 : List Str := [Str.ofString "thing"]
noncomputable def nm5 : List Str := [Str.ofString "thing", Str.ofString "text"]
noncomputable def nm6 : List Str := [Str.ofString "bounds"]
noncomputable def nm7 : List Str := [Str.ofString "self", Str.ofString "bound"]
noncomputable def nm8 : List Str := [Str.ofString "self"]
noncomputable def nm9 : List Str := [Str.ofString "self", Str.ofString "thing"]
noncomputable def Da : List Str := [Str.ofString "self"]
noncomputable def Dv : List Str := [Str.ofString "self", Str.ofString "number"]
noncomputable def CP : List Str := [Str.ofString "self", Str.ofString "window", Str.ofString "ring", Str.ofString "many"]
noncomputable def CL : List Str := [Str.ofString "self"]
noncomputable def Dz : List Str := [Str.ofString "self", Str.ofString "k", Str.ofString "last"]
noncomputable def CB : List Str := [Str.ofString "self", Str.ofString "number", Str.ofString "step"]
noncomputable def CY : List Str := [Str.ofString "self", Str.ofString "room", Str.ofString "ring"]
noncomputable def Dg : List Str := [Str.ofString "self", Str.ofString "number", Str.ofString "text", Str.ofString "step"]
noncomputable def Dq : List Str := [Str.ofString "self"]
noncomputable def Dl : List Str := [Str.ofString "self"]
noncomputable def CD : List Str := [Str.ofString "self"]
noncomputable def CG : List Str := [Str.ofString "thing"]
noncomputable def Dr : List Str := [Str.ofString "thing"]
noncomputable def CW : List Str := [Str.ofString "self", Str.ofString "bounds", Str.ofString "ring", Str.ofString "texts"]
noncomputable def Dt : List Str := [Str.ofString "self", Str.ofString "step", Str.ofString "bears", Str.ofString "text"]
noncomputable def Db : List Str := [Str.ofString "self"]
noncomputable def DC : List Str := [Str.ofString "self", Str.ofString "base", Str.ofString "top"]
noncomputable def Di : List Str := [Str.ofString "self", Str.ofString "found", Str.ofString "number", Str.ofString "bears", Str.ofString "text"]
noncomputable def CV : List Str := [Str.ofString "self"]
noncomputable def CJ : List Str := [Str.ofString "self"]
noncomputable def CK : List Str := [Str.ofString "self", Str.ofString "other"]
noncomputable def Dx : List Str := [Str.ofString "_law_script", Str.ofString "_law_k"]
noncomputable def CQ : List Str := [Str.ofString "_law_cell", Str.ofString "_law_k"]
noncomputable def Du : List Str := [Str.ofString "_law_script", Str.ofString "_law_one", Str.ofString "_law_two", Str.ofString "_law_window", Str.ofString "_law_delay", Str.ofString "_law_back"]
noncomputable def Dk : List Str := [Str.ofString "_law_cell", Str.ofString "_law_many", Str.ofString "_law_sorts", Str.ofString "_law_some", Str.ofString "_law_number", Str.ofString "_law_tail", Str.ofString "_law_at_here", Str.ofString "_law_found"]
noncomputable def Dy : List Str := [Str.ofString "_law_texts_here", Str.ofString "_law_first", Str.ofString "_law_steps", Str.ofString "_law_k"]
noncomputable def CA : List Str := [Str.ofString "_law_run", Str.ofString "_law_step_here"]
noncomputable def CN : List Str := [Str.ofString "_law_run", Str.ofString "_law_bounds_here", Str.ofString "_law_cell", Str.ofString "_law_base", Str.ofString "_law_top", Str.ofString "_law_want", Str.ofString "_law_more", Str.ofString "_law_rows"]
noncomputable def CI : List Str := [Str.ofString "_law_runs", Str.ofString "_law_rings", Str.ofString "_law_sent", Str.ofString "_law_wants", Str.ofString "_law_way", Str.ofString "_law_one", Str.ofString "_law_other", Str.ofString "_law_run", Str.ofString "_law_ring"]
noncomputable def CC : List Str := [Str.ofString "_law_runs", Str.ofString "_law_step_here", Str.ofString "_law_sent", Str.ofString "_law_wants", Str.ofString "_law_found"]
noncomputable def Dn : List Str := [Str.ofString "_law_script", Str.ofString "_law_bounds_here", Str.ofString "_law_least", Str.ofString "_law_rings", Str.ofString "_law_many", Str.ofString "_law_texts_here", Str.ofString "_law_runs", Str.ofString "_law_sent", Str.ofString "_law_wants", Str.ofString "_law_step_here", Str.ofString "_law_cell"]
noncomputable def ft0 : FnT := ⟨nm0, cA prog.main.body 0, cy prog.main.body 0⟩
noncomputable def ft1 : FnT := ⟨nm1, cA prog.main.body 15, cy prog.main.body 15⟩
noncomputable def ft2 : FnT := ⟨nm2, cA prog.main.body 16, cy prog.main.body 16⟩
noncomputable def ft3 : FnT := ⟨nm3, cA prog.main.body 17, cy prog.main.body 17⟩
noncomputable def ft4 : FnT := ⟨nm4, cA prog.main.body 18, cy prog.main.body 18⟩
noncomputable def ft5 : FnT := ⟨nm5, cA prog.main.body 19, cy prog.main.body 19⟩
noncomputable def ft6 : FnT := ⟨nm6, cA prog.main.body 20, cy prog.main.body 20⟩
noncomputable def ft7 : FnT := ⟨nm7, cA (bc prog.main.body 22) 0, cy (bc prog.main.body 22) 0⟩
noncomputable def ft8 : FnT := ⟨nm8, cA (bc prog.main.body 22) 1, cy (bc prog.main.body 22) 1⟩
noncomputable def ft9 : FnT := ⟨nm9, cA (bc prog.main.body 22) 2, cy (bc prog.main.body 22) 2⟩
noncomputable def ft10 : FnT := ⟨Da, cA (bc prog.main.body 22) 3, cy (bc prog.main.body 22) 3⟩
noncomputable def ft11 : FnT := ⟨Dv, cA (bc prog.main.body 22) 4, cy (bc prog.main.body 22) 4⟩
noncomputable def ft12 : FnT := ⟨CP, cA (bc prog.main.body 24) 0, cy (bc prog.main.body 24) 0⟩
noncomputable def ft13 : FnT := ⟨CL, cA (bc prog.main.body 24) 1, cy (bc prog.main.body 24) 1⟩
noncomputable def ft14 : FnT := ⟨Dz, cA (bc prog.main.body 24) 2, cy (bc prog.main.body 24) 2⟩
noncomputable def ft15 : FnT := ⟨CB, cA (bc prog.main.body 24) 3, cy (bc prog.main.body 24) 3⟩
noncomputable def ft16 : FnT := ⟨CY, cA (bc prog.main.body 25) 0, cy (bc prog.main.body 25) 0⟩
noncomputable def ft17 : FnT := ⟨Dg, cA (bc prog.main.body 25) 1, cy (bc prog.main.body 25) 1⟩
noncomputable def ft18 : FnT := ⟨Dq, cA (bc prog.main.body 25) 2, cy (bc prog.main.body 25) 2⟩
noncomputable def ft19 : FnT := ⟨Dl, cA (bc prog.main.body 25) 3, cy (bc prog.main.body 25) 3⟩
noncomputable def ft20 : FnT := ⟨CD, cA (bc prog.main.body 25) 4, cy (bc prog.main.body 25) 4⟩
noncomputable def ft21 : FnT := ⟨CG, cA prog.main.body 29, cy prog.main.body 29⟩
noncomputable def ft22 : FnT := ⟨Dr, cA prog.main.body 30, cy prog.main.body 30⟩
noncomputable def ft23 : FnT := ⟨CW, cA (bc prog.main.body 31) 0, cy (bc prog.main.body 31) 0⟩
noncomputable def ft24 : FnT := ⟨Dt, cA (bc prog.main.body 31) 1, cy (bc prog.main.body 31) 1⟩
noncomputable def ft25 : FnT := ⟨Db, cA (bc prog.main.body 31) 2, cy (bc prog.main.body 31) 2⟩
noncomputable def ft26 : FnT := ⟨DC, cA (bc prog.main.body 31) 3, cy (bc prog.main.body 31) 3⟩
noncomputable def ft27 : FnT := ⟨Di, cA (bc prog.main.body 31) 4, cy (bc prog.main.body 31) 4⟩
noncomputable def ft28 : FnT := ⟨CV, cA (bc prog.main.body 31) 5, cy (bc prog.main.body 31) 5⟩
noncomputable def ft29 : FnT := ⟨CJ, cA (bc prog.main.body 31) 6, cy (bc prog.main.body 31) 6⟩
noncomputable def ft30 : FnT := ⟨CK, cA (bc prog.main.body 31) 7, cy (bc prog.main.body 31) 7⟩
noncomputable def ft31 : FnT := ⟨Dx, cA prog.main.body 33, cy prog.main.body 33⟩
noncomputable def ft32 : FnT := ⟨CQ, cA prog.main.body 34, cy prog.main.body 34⟩
noncomputable def ft33 : FnT := ⟨Du, cA prog.main.body 36, cy prog.main.body 36⟩
noncomputable def ft34 : FnT := ⟨Dk, cA prog.main.body 37, cy prog.main.body 37⟩
noncomputable def ft35 : FnT := ⟨Dy, cA prog.main.body 38, cy prog.main.body 38⟩
noncomputable def ft36 : FnT := ⟨CA, cA prog.main.body 39, cy prog.main.body 39⟩
noncomputable def ft37 : FnT := ⟨CN, cA prog.main.body 40, cy prog.main.body 40⟩
noncomputable def ft38 : FnT := ⟨CI, cA prog.main.body 41, cy prog.main.body 41⟩
noncomputable def ft39 : FnT := ⟨CC, cA prog.main.body 42, cy prog.main.body 42⟩
noncomputable def ft40 : FnT := ⟨Dn, cA prog.main.body 43, cy prog.main.body 43⟩
noncomputable def tabs : Tabs := ⟨[ft0, ft1, ft2, ft3, ft4, ft5, ft6, ft7, ft8, ft9, ft10, ft11, ft12, ft13, ft14, ft15, ft16, ft17, ft18, ft19, ft20, ft21, ft22, ft23, ft24, ft25, ft26, ft27, ft28, ft29, ft30, ft31, ft32, ft33, ft34, ft35, ft36, ft37, ft38, ft39, ft40], [Str.ofString "_wall", Str.ofString "is_among", Str.ofString "are_bounds", Str.ofString "need_bounds", Str.ofString "need_ring", Str.ofString "need_texts", Str.ofString "least_ring", Str.ofString "", Str.ofString "", Str.ofString "", Str.ofString "", Str.ofString "", Str.ofString "", Str.ofString "", Str.ofString "", Str.ofString "", Str.ofString "", Str.ofString "", Str.ofString "", Str.ofString "", Str.ofString "", Str.ofString "is_step", Str.ofString "need_step", Str.ofString "", Str.ofString "", Str.ofString "", Str.ofString "", Str.ofString "", Str.ofString "", Str.ofString "", Str.ofString "", Str.ofString "_law_at", Str.ofString "_law_mixed", Str.ofString "_law_bounds", Str.ofString "_law_texts", Str.ofString "_law_straight", Str.ofString "_law_said", Str.ofString "_law_step", Str.ofString "_law_alike", Str.ofString "_law_both", Str.ofString "law"], [Str.ofString "PostError", Str.ofString "BadBounds", Str.ofString "BadRing", Str.ofString "BadTexts", Str.ofString "BadStep", Str.ofString "NotNow", Str.ofString "NoLetter", Str.ofString "Post", Str.ofString "Sender", Str.ofString "Taker", Str.ofString "Run"], [Str.ofString "bound", Str.ofString "things", Str.ofString "window", Str.ofString "ring", Str.ofString "many", Str.ofString "base", Str.ofString "top", Str.ofString "room", Str.ofString "place", Str.ofString "own", Str.ofString "early", Str.ofString "bounds", Str.ofString "texts", Str.ofString "sender", Str.ofString "taker", Str.ofString "forth", Str.ofString "back", Str.ofString "counts", Str.ofString "heard", Str.ofString "gone", Str.ofString "span", Str.ofString "there", Str.ofString "sent", Str.ofString "posted", Str.ofString "taken", Str.ofString "want", Str.ofString "do", Str.ofString "letters", Str.ofString "answers", Str.ofString "out", Str.ofString "copied", Str.ofString "first", Str.ofString "came", Str.ofString "kept", Str.ofString "wrong"], [Str.ofString "bool", Str.ofString "dict", Str.ofString "enumerate", Str.ofString "int", Str.ofString "isinstance", Str.ofString "len", Str.ofString "list", Str.ofString "max", Str.ofString "min", Str.ofString "range", Str.ofString "str", Str.ofString "tuple", Str.ofString "zip"]⟩
theorem b0 {C : Cx} (X : CxOk C tabs prg) (Y : GlobOk C globs) (Z : GDs C gds) (V : GVs C gvs) {F : Calls} {d : Nat} (hF : bZ C prg d F) : BothB C d ft0.sc ft0.nms false (w0 F) ft0.body := by
  exact BothB.no
theorem b1 {C : Cx} (X : CxOk C tabs prg) (Y : GlobOk C globs) (Z : GDs C gds) (V : GVs C gvs) {F : Calls} {d : Nat} (hF : bZ C prg d F) : BothB C d ft1.sc ft1.nms false (w1 F) ft1.body := by
  exact (hB (BothS.ret (Both.and (BothBl.cons (Both.isi (t := .int) X hV rfl (by kernel_rfl) (by decide +kernel) (by kernel_rfl) wk (by decide +kernel) (by kernel_rfl)) (BothBl.cons (Both.not (Both.isi (t := .bool) X hV rfl (by kernel_rfl) (by decide +kernel) (by kernel_rfl) uX (by decide +kernel) (by kernel_rfl))) (BothBl.one (hCm hV (BothC.cons rj hV (BothC.one rj hV)))))))) hBn)
theorem b2 {C : Cx} (X : CxOk C tabs prg) (Y : GlobOk C globs) (Z : GDs C gds) (V : GVs C gvs) {F : Calls} {d : Nat} (hF : bZ C prg d F) : BothB C d ft2.sc ft2.nms false (w2 F) ft2.body := by
  exact (hB (BothS.ite (Both.or (BothBl.cons (Both.not (Both.isi (t := .tuple) X hV rfl (by kernel_rfl) (by decide +kernel) (by kernel_rfl) mu (by decide +kernel) (by kernel_rfl))) (BothBl.cons (hCm (hBi X qE (hL hV hLn)) (BothC.one gp hI)) (BothBl.one (Both.not (hCa X hF (hL (hIx bM hV hI) (hL hI (hL (Both.glob X Y (i := 0) (by kernel_rfl) (by kernel_rfl)) hLn))))))))) (hB (BothS.ret Both.bool) hBn) hBn) (hB (BothS.ite (Both.not (hCa X hF (hL (hIx bM hV hI) (hL hI (hL (hIx bM hV hI) hLn))))) (hB (BothS.ret Both.bool) hBn) hBn) (hB (BothS.ret (Both.and (BothBl.cons (hCa X hF (hL (hIx bM hV hI) (hL hI (hL (Both.glob X Y (i := 1) (by kernel_rfl) (by kernel_rfl)) hLn)))) (BothBl.one (hCa X hF (hL (hIx bM hV hI) (hL hI (hL (Both.glob X Y (i := 1) (by kernel_rfl) (by kernel_rfl)) hLn)))))))) hBn)))
theorem b3 {C : Cx} (X : CxOk C tabs prg) (Y : GlobOk C globs) (Z : GDs C gds) (V : GVs C gvs) {F : Calls} {d : Nat} (hF : bZ C prg d F) : BothB C d ft3.sc ft3.nms false (w3 F) ft3.body := by
  exact (hB (BothS.ite (Both.not (hCa X hF (hL hV hLn))) (hB (BothS.rais X (by kernel_rfl) (by kernel_rfl) (X.xcs 1 _ rfl rfl)) hBn) hBn) hBn)
theorem b4 {C : Cx} (X : CxOk C tabs prg) (Y : GlobOk C globs) (Z : GDs C gds) (V : GVs C gvs) {F : Calls} {d : Nat} (hF : bZ C prg d F) : BothB C d ft4.sc ft4.nms false (w4 F) ft4.body := by
  exact (hB (BothS.ite (Both.not (hCa X hF (hL hV (hL hI (hL (Both.glob X Y (i := 2) (by kernel_rfl) (by kernel_rfl)) hLn))))) (hB (BothS.rais X (by kernel_rfl) (by kernel_rfl) (X.xcs 2 _ rfl rfl)) hBn) hBn) hBn)
theorem b5 {C : Cx} (X : CxOk C tabs prg) (Y : GlobOk C globs) (Z : GDs C gds) (V : GVs C gvs) {F : Calls} {d : Nat} (hF : bZ C prg d F) : BothB C d ft5.sc ft5.nms false (w5 F) ft5.body := by
  exact (hB (BothS.ite (Both.or (BothBl.cons (Both.not (Both.isiE X hV rfl (by kernel_rfl) (by decide +kernel) (by kernel_rfl) uG (by decide +kernel) (by kernel_rfl))) (BothBl.one (hCm (hBi X qU (hL hV hLn)) (BothC.one tf (Both.glob X Y (i := 3) (by kernel_rfl) (by kernel_rfl))))))) (hB (BothS.rais X (by kernel_rfl) (by kernel_rfl) (X.xcs 3 _ rfl rfl)) hBn) hBn) (hB (BothS.forL hV (hB (BothS.ite (Both.or (BothBl.cons (Both.not (Both.isi (t := .str) X hV rfl (by kernel_rfl) (by decide +kernel) (by kernel_rfl) qr (by decide +kernel) (by kernel_rfl))) (BothBl.one (hCm (hBi X mM (hL hV hLn)) (BothC.one tf (Both.glob X Y (i := 4) (by kernel_rfl) (by kernel_rfl))))))) (hB (BothS.rais X (by kernel_rfl) (by kernel_rfl) (X.xcs 3 _ rfl rfl)) hBn) hBn) hBn) rfl (by kernel_rfl)) hBn))
theorem b6 {C : Cx} (X : CxOk C tabs prg) (Y : GlobOk C globs) (Z : GDs C gds) (V : GVs C gvs) {F : Calls} {d : Nat} (hF : bZ C prg d F) : BothB C d ft6.sc ft6.nms false (w6 F) ft6.body := by
  exact (hB (hEx (hCa X hF (hL hV hLn))) (hB (BothS.ret (aG bO (aG bO (hIx bM hV hI) (hIx bM hV hI)) (hBi X mU (hL (hIx bM hV hI) (hL (hIx bM hV hI) hLn))))) hBn))
theorem b7 {C : Cx} (X : CxOk C tabs prg) (Y : GlobOk C globs) (Z : GDs C gds) (V : GVs C gvs) {F : Calls} {d : Nat} (hF : bZ C prg d F) : BothB C d ft7.sc ft7.nms false (w7 F) ft7.body := by
  exact (hB (hSa X hV hV) (hB (hSa X hV (hLs hLn)) hBn))
theorem b8 {C : Cx} (X : CxOk C tabs prg) (Y : GlobOk C globs) (Z : GDs C gds) (V : GVs C gvs) {F : Calls} {d : Nat} (hF : bZ C prg d F) : BothB C d ft8.sc ft8.nms false (w8 F) ft8.body := by
  exact (hB (BothS.ret (hBi X mU (hL hI (hL (aG dw (aG dw (hBi X iH (hL (hAt X hV) hLn)) hI) (hAt X hV)) hLn)))) hBn)
theorem b9 {C : Cx} (X : CxOk C tabs prg) (Y : GlobOk C globs) (Z : GDs C gds) (V : GVs C gvs) {F : Calls} {d : Nat} (hF : bZ C prg d F) : BothB C d ft9.sc ft9.nms false (w9 F) ft9.body := by
  exact (hB (hEx (Both.bm fK (hAt X hV) (hL hV hLn) rfl (by kernel_rfl) (by decide) (by decide))) (hB (BothS.ret (aG dw (hBi X iH (hL (hAt X hV) hLn)) hI)) hBn))
theorem b10 {C : Cx} (X : CxOk C tabs prg) (Y : GlobOk C globs) (Z : GDs C gds) (V : GVs C gvs) {F : Calls} {d : Nat} (hF : bZ C prg d F) : BothB C d ft10.sc ft10.nms false (w10 F) ft10.body := by
  exact (hB (BothS.ret (Both.listR X (hL (hMe X hF hV hLn) (hL (hBi X iH (hL (hAt X hV) hLn)) hLn)) (by kernel_rfl) (by kernel_rfl) (by decide +kernel) (by decide +kernel) (by kernel_rfl) (by kernel_rfl))) hBn)
theorem b11 {C : Cx} (X : CxOk C tabs prg) (Y : GlobOk C globs) (Z : GDs C gds) (V : GVs C gvs) {F : Calls} {d : Nat} (hF : bZ C prg d F) : BothB C d ft11.sc ft11.nms false (w11 F) ft11.body := by
  exact (hB (BothS.ite (Both.not (hCa X hF (hL hV (hL (hMe X hF hV hLn) (hL (aG dw (hBi X iH (hL (hAt X hV) hLn)) hI) hLn))))) (hB (BothS.rais X (by kernel_rfl) (by kernel_rfl) (X.xcs 6 _ rfl rfl)) hBn) hBn) (hB (BothS.ret (hIx gV (hAt X hV) hV)) hBn))
theorem b12 {C : Cx} (X : CxOk C tabs prg) (Y : GlobOk C globs) (Z : GDs C gds) (V : GVs C gvs) {F : Calls} {d : Nat} (hF : bZ C prg d F) : BothB C d ft12.sc ft12.nms false (w12 F) ft12.body := by
  exact (hB (hSa X hV hV) (hB (hSa X hV hV) (hB (hSa X hV hV) (hB (hSa X hV hI) (hB (hSa X hV hI) hBn)))))
theorem b13 {C : Cx} (X : CxOk C tabs prg) (Y : GlobOk C globs) (Z : GDs C gds) (V : GVs C gvs) {F : Calls} {d : Nat} (hF : bZ C prg d F) : BothB C d ft13.sc ft13.nms false (w13 F) ft13.body := by
  exact (hB (BothS.ret (hTu (hL (hAt X hV) (hL (hAt X hV) hLn)))) hBn)
theorem b14 {C : Cx} (X : CxOk C tabs prg) (Y : GlobOk C globs) (Z : GDs C gds) (V : GVs C gvs) {F : Calls} {d : Nat} (hF : bZ C prg d F) : BothB C d ft14.sc ft14.nms false (w14 F) ft14.body := by
  exact (hB (hAs (hBi X wc (hL (hAt X hV) (hL (aG dw (aG bO (hAt X hV) (hAt X hV)) hI) (hL (aG dw (hAt X hV) hI) hLn))))) (hB (BothS.ite (Both.not (hCa X hF (hL hV (hL (hAt X hV) (hL hV hLn))))) (hB (BothS.rais X (by kernel_rfl) (by kernel_rfl) (X.xcs 5 _ rfl rfl)) hBn) hBn) (hB (BothS.ite (hCm hV (BothC.one cF (hAt X hV))) (hB (hSa X hV (aG bO hV hI)) hBn) hBn) (hB (BothS.ret (aG aF hV (hAt X hV))) hBn))))
theorem b15 {C : Cx} (X : CxOk C tabs prg) (Y : GlobOk C globs) (Z : GDs C gds) (V : GVs C gvs) {F : Calls} {d : Nat} (hF : bZ C prg d F) : BothB C d ft15.sc ft15.nms false (w15 F) ft15.body := by
  exact (hB (hAs (aG aF (aG dw hV (hAt X hV)) (hAt X hV))) (hB (BothS.ite (hCm (aG bO (hAt X hV) hV) (BothC.one rj (hAt X hV))) (hB (hSa X hV (aG bO (hAt X hV) hV)) hBn) hBn) hBn))
theorem b16 {C : Cx} (X : CxOk C tabs prg) (Y : GlobOk C globs) (Z : GDs C gds) (V : GVs C gvs) {F : Calls} {d : Nat} (hF : bZ C prg d F) : BothB C d ft16.sc ft16.nms false (w16 F) ft16.body := by
  exact (hB (hSa X hV hV) (hB (hSa X hV hV) (hB (hSa X hV hI) (hB (hSa X hV (hLs hLn)) (hB (hSa X hV (Both.dctI X)) hBn)))))
theorem b17 {C : Cx} (X : CxOk C tabs prg) (Y : GlobOk C globs) (Z : GDs C gds) (V : GVs C gvs) {F : Calls} {d : Nat} (hF : bZ C prg d F) : BothB C d ft17.sc ft17.nms false (w17 F) ft17.body := by
  exact (hB (hAs (aG aF (aG dw hV (hAt X hV)) (hAt X hV))) (hB (BothS.ite (Both.and (BothBl.cons (hCm hV (BothC.one rC (hAt X hV))) (BothBl.one (hCm (aG bO (hAt X hV) hV) (BothC.one vV (hAt X hV)))))) (hB (BothS.setI (hAt X hV) (aG bO (hAt X hV) hV) hV rfl) hBn) hBn) (hB (BothS.whil (hCm (hAt X hV) (BothC.one xh (hAt X hV))) (hB (hEx (Both.bm fK (hAt X hV) (hL (Both.bm zZ (hAt X hV) (hL (hAt X hV) hLn) rfl (by kernel_rfl) (by decide) (by decide)) hLn) rfl (by kernel_rfl) (by decide) (by decide))) (hB (hSa X hV (aG bO (hAt X hV) hI)) hBn))) (hB (BothS.ret (aG aF (hAt X hV) (hAt X hV))) hBn))))
theorem b18 {C : Cx} (X : CxOk C tabs prg) (Y : GlobOk C globs) (Z : GDs C gds) (V : GVs C gvs) {F : Calls} {d : Nat} (hF : bZ C prg d F) : BothB C d ft18.sc ft18.nms false (w18 F) ft18.body := by
  exact (hB (BothS.ret (hAt X hV)) hBn)
theorem b19 {C : Cx} (X : CxOk C tabs prg) (Y : GlobOk C globs) (Z : GDs C gds) (V : GVs C gvs) {F : Calls} {d : Nat} (hF : bZ C prg d F) : BothB C d ft19.sc ft19.nms false (w19 F) ft19.body := by
  exact (hB (BothS.ret (hBi X im (hL (hAt X hV) hLn))) hBn)
theorem b20 {C : Cx} (X : CxOk C tabs prg) (Y : GlobOk C globs) (Z : GDs C gds) (V : GVs C gvs) {F : Calls} {d : Nat} (hF : bZ C prg d F) : BothB C d ft20.sc ft20.nms false (w20 F) ft20.body := by
  exact BothB.no
theorem b21 {C : Cx} (X : CxOk C tabs prg) (Y : GlobOk C globs) (Z : GDs C gds) (V : GVs C gvs) {F : Calls} {d : Nat} (hF : bZ C prg d F) : BothB C d ft21.sc ft21.nms false (w21 F) ft21.body := by
  exact (hB (BothS.ite (Both.or (BothBl.cons (Both.not (Both.isi (t := .tuple) X hV rfl (by kernel_rfl) (by decide +kernel) (by kernel_rfl) mu (by decide +kernel) (by kernel_rfl))) (BothBl.cons (hCm (hBi X qE (hL hV hLn)) (BothC.one gp hI)) (BothBl.one (Both.not (Both.isi (t := .str) X (hIx bM hV hI) rfl (by kernel_rfl) (by decide +kernel) (by kernel_rfl) qr (by decide +kernel) (by kernel_rfl))))))) (hB (BothS.ret Both.bool) hBn) hBn) (hB (BothS.ret (Both.and (BothBl.cons (hCm (hIx bM hV hI) (BothC.one vq (Both.glob X Y (i := 5) (by kernel_rfl) (by kernel_rfl)))) (BothBl.one (hCa X hF (hL (hIx bM hV hI) (hL hI (hL (Both.glob X Y (i := 6) (by kernel_rfl) (by kernel_rfl)) hLn)))))))) hBn))
theorem b22 {C : Cx} (X : CxOk C tabs prg) (Y : GlobOk C globs) (Z : GDs C gds) (V : GVs C gvs) {F : Calls} {d : Nat} (hF : bZ C prg d F) : BothB C d ft22.sc ft22.nms false (w22 F) ft22.body := by
  exact (hB (BothS.ite (Both.not (hCa X hF (hL hV hLn))) (hB (BothS.rais X (by kernel_rfl) (by kernel_rfl) (X.xcs 4 _ rfl rfl)) hBn) hBn) hBn)
theorem b23 {C : Cx} (X : CxOk C tabs prg) (Y : GlobOk C globs) (Z : GDs C gds) (V : GVs C gvs) {F : Calls} {d : Nat} (hF : bZ C prg d F) : BothB C d ft23.sc ft23.nms false (w23 F) ft23.body := by
  exact (hB (hEx (hCa X hF (hL hV hLn))) (hB (hEx (hCa X hF (hL hV hLn))) (hB (hEx (hCa X hF (hL hV hLn))) (hB (hSa X hV hV) (hB (hSa X hV hV) (hB (hSa X hV (hBi X im (hL hV hLn))) (hB (hSa X hV (Both.new X hF (hL (hIx bM hV hI) (hL hV (hL (hBi X qU (hL hV hLn)) hLn))) (by kernel_rfl) (by kernel_rfl) rfl rfl (by decide))) (hB (hSa X hV (Both.new X hF (hL (hIx bM hV hI) (hL hV hLn)) (by kernel_rfl) (by kernel_rfl) rfl rfl (by decide))) (hB (hSa X hV (Both.new X hF (hL (hIx bM hV hI) hLn) (by kernel_rfl) (by kernel_rfl) rfl rfl (by decide))) (hB (hSa X hV (Both.new X hF (hL (hIx bM hV hI) hLn) (by kernel_rfl) (by kernel_rfl) rfl rfl (by decide))) hBn))))))))))
theorem b24 {C : Cx} (X : CxOk C tabs prg) (Y : GlobOk C globs) (Z : GDs C gds) (V : GVs C gvs) {F : Calls} {d : Nat} (hF : bZ C prg d F) : BothB C d ft24.sc ft24.nms false (w24 F) ft24.body := by
  exact (hB (hEx (hCa X hF (hL hV hLn))) (hB (BothS.ite (hCm (hIx bM hV hI) (BothC.one cF hS)) (hB (hAs (hMe X hF (hAt X hV) (hL (hIx bM hV hI) hLn))) (hB (BothS.ret (hMe X hF (hAt X hV) (hL (hTu (hL hV (hL (hIx my (hAt X hV) (hIx bM hV hI)) hLn))) hLn))) hBn)) hBn) (hB (BothS.ite (hCm (hIx bM hV hI) (BothC.one cF hS)) (hB (BothS.unp (hMe X hF (hAt X hV) (hL (hIx bM hV hI) hLn)) (fun _ => ⟨rfl, rfl⟩) (NamesAre.cons (by kernel_rfl) (NamesAre.cons (by kernel_rfl) NamesAre.nil))) (hB (BothS.ret (hMe X hF (hAt X hV) (hL (hMe X hF (hAt X hV) (hL hV (hL hV hLn))) hLn))) hBn)) hBn) (hB (hEx (hMe X hF (hAt X hV) (hL (hMe X hF (hAt X hV) (hL (hIx bM hV hI) hLn)) hLn))) (hB (BothS.ret (hIx bM (hMe X hF (hAt X hV) hLn) hI)) hBn)))))
theorem b25 {C : Cx} (X : CxOk C tabs prg) (Y : GlobOk C globs) (Z : GDs C gds) (V : GVs C gvs) {F : Calls} {d : Nat} (hF : bZ C prg d F) : BothB C d ft25.sc ft25.nms false (w25 F) ft25.body := by
  exact (hB (BothS.ret (hMe X hF (hAt X hV) hLn)) hBn)
theorem b26 {C : Cx} (X : CxOk C tabs prg) (Y : GlobOk C globs) (Z : GDs C gds) (V : GVs C gvs) {F : Calls} {d : Nat} (hF : bZ C prg d F) : BothB C d ft26.sc ft26.nms false (w26 F) ft26.body := by
  exact (hB (BothS.unp (hMe X hF (hAt X hV) hLn) (fun _ => ⟨rfl, rfl⟩) (NamesAre.cons (by kernel_rfl) (NamesAre.cons (by kernel_rfl) NamesAre.nil))) (hB (BothS.ret (hTu (hL hV (hL hV (hL (hMe X hF (hAt X hV) hLn) hLn))))) hBn))
theorem b27 {C : Cx} (X : CxOk C tabs prg) (Y : GlobOk C globs) (Z : GDs C gds) (V : GVs C gvs) {F : Calls} {d : Nat} (hF : bZ C prg d F) : BothB C d ft27.sc ft27.nms false (w27 F) ft27.body := by
  exact (hB (hAs (hLs hLn)) (hB (BothS.forX (SrcE.list (hMe X hF (hAt X hV) hLn)) (hB (BothS.unp (hMe X hF (hAt X hV) (hL hV hLn)) (fun _ => ⟨rfl, rfl⟩) (NamesAre.cons (by kernel_rfl) (NamesAre.cons (by kernel_rfl) NamesAre.nil))) (hB (hEx (Both.bm fK hV (hL (hTu (hL hV (hL hV (hL hV hLn)))) hLn) rfl (by kernel_rfl) (by decide) (by decide))) hBn)) rfl (by kernel_rfl)) (hB (BothS.ret hV) hBn)))
theorem b28 {C : Cx} (X : CxOk C tabs prg) (Y : GlobOk C globs) (Z : GDs C gds) (V : GVs C gvs) {F : Calls} {d : Nat} (hF : bZ C prg d F) : BothB C d ft28.sc ft28.nms false (w28 F) ft28.body := by
  exact (hB (BothS.ret (Both.comp (nms' := ft28.nms ++ [(Str.ofString "number")]) (SrcE.list (hMe X hF (hAt X hV) hLn)) (hTu (hL hV (hL (hMe X hF (hAt X hV) (hL hV hLn)) hLn))) (TgtOk.one (by kernel_rfl) (by kernel_rfl) (by kernel_rfl)) (by kernel_rfl) rfl)) hBn)
theorem b29 {C : Cx} (X : CxOk C tabs prg) (Y : GlobOk C globs) (Z : GDs C gds) (V : GVs C gvs) {F : Calls} {d : Nat} (hF : bZ C prg d F) : BothB C d ft29.sc ft29.nms false (w29 F) ft29.body := by
  exact BothB.no
theorem b30 {C : Cx} (X : CxOk C tabs prg) (Y : GlobOk C globs) (Z : GDs C gds) (V : GVs C gvs) {F : Calls} {d : Nat} (hF : bZ C prg d F) : BothB C d ft30.sc ft30.nms false (w30 F) ft30.body := by
  exact (hB (hAs (Both.new X hF (hL (hAt X hV) (hL (hAt X hV) (hL (hAt X hV) hLn))) (by kernel_rfl) (by kernel_rfl) rfl rfl (by decide))) (hB (hSa X (hAt X hV) (hAt X (hAt X hV))) (hB (hSa X (hAt X hV) (hAt X (hAt X hV))) (hB (hSa X (hAt X hV) (hAt X (hAt X hV))) (hB (hSa X (hAt X hV) (hBi X im (hL (hAt X (hAt X hV)) hLn))) (hB (hSa X (hAt X hV) (hBi X (uS X) (hL (hAt X (hAt X hV)) hLn))) (hB (hSa X (hAt X hV) (hBi X im (hL (hAt X (hAt X hV)) hLn))) (hB (hSa X (hAt X hV) (hBi X im (hL (hAt X (hAt X hV)) hLn))) (hB (BothS.ret hV) hBn)))))))))
theorem b31 {C : Cx} (X : CxOk C tabs prg) (Y : GlobOk C globs) (Z : GDs C gds) (V : GVs C gvs) {F : Calls} {d : Nat} (hF : bZ C prg d F) : BothB C d ft31.sc ft31.nms false (w31 F) ft31.body := by
  exact (hB (BothS.ite (hCm hV (BothC.one rC (hBi X tZ (hL hV hLn)))) (hB (BothS.ret (hIx my hV hV)) hBn) hBn) (hB (BothS.ret hI) hBn))
theorem b32 {C : Cx} (X : CxOk C tabs prg) (Y : GlobOk C globs) (Z : GDs C gds) (V : GVs C gvs) {F : Calls} {d : Nat} (hF : bZ C prg d F) : BothB C d ft32.sc ft32.nms false (w32 F) ft32.body := by
  exact (hB (BothS.ret (aG aF (aG bO (aG me hV hI) (aG me (aG me hI (aG bO hV hI)) (aG bO hV hI))) hI)) hBn)
theorem b33 {C : Cx} (X : CxOk C tabs prg) (Y : GlobOk C globs) (Z : GDs C gds) (V : GVs C gvs) {F : Calls} {d : Nat} (hF : bZ C prg d F) : BothB C d ft33.sc ft33.nms false (w33 F) ft33.body := by
  exact (hB (hAs (hCa X hF (hL (hCa X hF (hL hV (hL hI hLn))) (hL hI hLn)))) (hB (hAs (hCa X hF (hL (hCa X hF (hL hV (hL hI hLn))) (hL hI hLn)))) (hB (hAs (aG bO hI (aG aF hV hI))) (hB (hAs (aG aF hV hI)) (hB (hAs (aG aF (aG bh hV hI) hI)) (hB (BothS.ite (hCm (aG aF (aG bh hV hI) hI) (BothC.one cF hI)) (hB (hAs (aG bO hI (aG aF (aG bh hV hI) hI))) hBn) hBn) (hB (BothS.ite (hCm (aG aF (aG bh hV hI) hI) (BothC.one xb (hTu (hL hI (hL hI hLn))))) (hB (hAs (aG aF (aG bh hV hI) hI)) hBn) hBn) (hB (BothS.ite (hCm (aG aF (aG bh hV hI) hI) (BothC.one cF hI)) (hB (hAs (aG aF (aG bh hV hI) hI)) hBn) hBn) (hB (BothS.ite (hCm (aG aF (aG bh hV hI) hI) (BothC.one tf hI)) (hB (hAs (aG aF (aG bh hV hI) (hIx my (hLs (hL hI (hL hI hLn))) (aG aF (aG bh hV hI) hI)))) hBn) hBn) (hB (BothS.ret (hTu (hL hV (hL (aG bO hI (aG aF (aG bh hV hI) hV)) (hL hV (hL hV hLn)))))) hBn))))))))))
theorem b34 {C : Cx} (X : CxOk C tabs prg) (Y : GlobOk C globs) (Z : GDs C gds) (V : GVs C gvs) {F : Calls} {d : Nat} (hF : bZ C prg d F) : BothB C d ft34.sc ft34.nms false (w34 F) ft34.body := by
  exact (hB (hAs hS) (hB (hAs (hCa X hF (hL hV (hL hI hLn)))) (hB (hAs (Both.bm xG hS (hL (Both.comp (nms' := ft34.nms ++ [(Str.ofString "_law_j")]) (SrcE.range X (hL (aG aF (aG bh hV hI) hI) hLn) (by kernel_rfl) (by decide +kernel) (by kernel_rfl)) (hIx Bl hV (aG aF (aG bO (aG bh hV hI) (aG me hV (aG bO hI (aG aF hV hI)))) (hBi X mM (hL hV hLn)))) (TgtOk.one (by kernel_rfl) (by kernel_rfl) (by kernel_rfl)) (by kernel_rfl) rfl) hLn) rfl (by kernel_rfl) (by decide) (by decide))) (hB (hAs (aG aF (aG bh hV hI) (aG bO (hBi X mM (hL hV hLn)) hI))) (hB (BothS.assignComp (nms' := ft34.nms ++ [(Str.ofString "_law_k")]) (SrcE.range X (hL hV hLn) (by kernel_rfl) (by decide +kernel) (by kernel_rfl)) (aG qT (aG qT (Both.sliceHiX hV hV) (hBi X wv (hL (aG aF hV hV) hLn))) (Both.sliceLoX hV hV)) (TgtOk.one (by kernel_rfl) (by kernel_rfl) (by kernel_rfl)) (by kernel_rfl) rfl (by kernel_rfl) (by kernel_rfl)) (hB (BothS.ite (hCm (aG aF (aG bh hV hI) hI) (BothC.one cF hI)) (hB (BothS.assignComp (nms' := ft34.nms ++ [(Str.ofString "_law_k"), (Str.ofString "_law_one")]) (SrcE.enum X (hL hV hLn) (by kernel_rfl) (by decide +kernel) (by kernel_rfl)) (hIx my (hLs (hL hV (hL hS hLn))) (hBi X qW (hL (hCm (aG aF hV hV) (BothC.one cF (aG aF (aG bh hV hI) hV))) hLn))) (TgtOk.two (by kernel_rfl) (by kernel_rfl) (by kernel_rfl) (by decide +kernel) (by kernel_rfl) (by kernel_rfl)) (by kernel_rfl) rfl (by kernel_rfl) (by kernel_rfl)) hBn) hBn) (hB (BothS.ret hV) hBn)))))))
theorem b35 {C : Cx} (X : CxOk C tabs prg) (Y : GlobOk C globs) (Z : GDs C gds) (V : GVs C gvs) {F : Calls} {d : Nat} (hF : bZ C prg d F) : BothB C d ft35.sc ft35.nms false (w35 F) ft35.body := by
  exact (hB (hAs (hLs hLn)) (hB (BothS.forX (SrcE.range X (hL (hBi X vm (hL hV (hL (hBi X tZ (hL hV hLn)) hLn))) hLn) (by kernel_rfl) (by decide +kernel) (by kernel_rfl)) (hB (hAs (aG vB hV (hLs (hL (hTu (hL hS (hL hV hLn))) (hL (hTu (hL hS (hL hV hLn))) (hL (hTu (hL hS (hL hV hLn))) hLn)))))) hBn) rfl (by kernel_rfl)) (hB (BothS.ret hV) hBn)))
theorem b36 {C : Cx} (X : CxOk C tabs prg) (Y : GlobOk C globs) (Z : GDs C gds) (V : GVs C gvs) {F : Calls} {d : Nat} (hF : bZ C prg d F) : BothB C d ft36.sc ft36.nms false (w36 F) ft36.body := by
  exact (hB (BothS.tryN X (hB (BothS.ret (hTu (hL hS (hL (hMe X hF hV (hL hV hLn)) hLn)))) hBn) (BothN.cons (by kernel_rfl) (by kernel_rfl) rfl rfl (hB (BothS.ret (hTu (hL hS (hL hS hLn)))) hBn) (BothN.cons (by kernel_rfl) (by kernel_rfl) rfl rfl (hB (BothS.ret (hTu (hL hS (hL hS hLn)))) hBn) BothN.nil))) hBn)
theorem b37 {C : Cx} (X : CxOk C tabs prg) (Y : GlobOk C globs) (Z : GDs C gds) (V : GVs C gvs) {F : Calls} {d : Nat} (hF : bZ C prg d F) : BothB C d ft37.sc ft37.nms false (w37 F) ft37.body := by
  exact (hB (BothS.unp (hMe X hF hV hLn) (fun _ => ⟨rfl, rfl⟩) (NamesAre.cons (by kernel_rfl) (NamesAre.cons (by kernel_rfl) (NamesAre.cons (by kernel_rfl) NamesAre.nil)))) (hB (hAs (aG bh hV hI)) (hB (BothS.ite (hCm (aG aF hV hI) (BothC.one rC hI)) (hB (BothS.ret (hTu (hL hS (hL (hIx my (hLs (hL hV (hL hV (hL (aG bO hV (aG aF (aG bh hV hI) (hIx bM hV hI))) (hL (aG bO hV (aG aF (aG bh hV hI) hI)) hLn))))) (aG aF hV hI)) hLn)))) hBn) hBn) (hB (hAs (hIx my (hLs (hL (hMe X hF hV hLn) (hL (hMe X hF hV hLn) hLn))) (aG bh (aG aF hV hI) hI))) (hB (BothS.ite (hCm hV (BothC.one cF (hLs hLn))) (hB (BothS.ret (hTu (hL hS (hL (aG aF hV hI) hLn)))) hBn) hBn) (hB (BothS.ret (hTu (hL (hIx my (hLs (hL hS (hL hS hLn))) (aG bh (aG aF hV hI) hI)) (hL (hBi X mU (hL hI (hL (aG dw (hIx bM (hIx gV hV (aG aF (aG bh hV hI) (hBi X iH (hL hV hLn)))) hI) (hBi X qW (hL (hCm (aG aF hV hI) (BothC.one cF hI)) hLn))) hLn))) hLn)))) hBn))))))
theorem b38 {C : Cx} (X : CxOk C tabs prg) (Y : GlobOk C globs) (Z : GDs C gds) (V : GVs C gvs) {F : Calls} {d : Nat} (hF : bZ C prg d F) : BothB C d ft38.sc ft38.nms false (w38 F) ft38.body := by
  exact (hB (BothS.unpL hV (fun _ => ⟨rfl, rfl⟩) (NamesAre.cons (by kernel_rfl) (NamesAre.cons (by kernel_rfl) NamesAre.nil))) (hB (BothS.ite (hCm hV (BothC.one cF hI)) (hB (BothS.ret Both.bool) hBn) hBn) (hB (BothS.ite (Both.or (BothBl.cons (Both.and (BothBl.cons (hCm hV (BothC.one cF hI)) (BothBl.one (hCm (hMe X hF hV hLn) (BothC.one gp (hMe X hF hV hLn)))))) (BothBl.one (hCm (hMe X hF hV hLn) (BothC.one gp (hMe X hF hV hLn)))))) (hB (BothS.ret Both.bool) hBn) hBn) (hB (BothS.forX2 (SrcE.zip X (hL hV (hL hV hLn)) (by kernel_rfl) (by decide +kernel) (by kernel_rfl)) (hB (BothS.ite (hCm (Both.comp (nms' := ft38.nms ++ [(Str.ofString "_law_row")]) (SrcE.list (hMe X hF hV hLn)) (Both.sliceHiT hV hI) (TgtOk.one (by kernel_rfl) (by kernel_rfl) (by kernel_rfl)) (by kernel_rfl) rfl) (BothC.one gp (Both.comp (nms' := ft38.nms ++ [(Str.ofString "_law_row")]) (SrcE.list (hMe X hF hV hLn)) (hTu (hL (hIx bM hV hI) (hL (aG aF (hIx gV hV (hIx bM hV hI)) hV) hLn))) (TgtOk.one (by kernel_rfl) (by kernel_rfl) (by kernel_rfl)) (by kernel_rfl) rfl))) (hB (BothS.ret Both.bool) hBn) hBn) (hB (BothS.ite (hCm (hMe X hF hV hLn) (BothC.one gp (Both.comp (nms' := ft38.nms ++ [(Str.ofString "_law_row")]) (SrcE.list (hMe X hF hV hLn)) (hTu (hL (hIx bM hV hI) (hL (aG aF (hIx gV hV (hIx bM hV hI)) hV) hLn))) (TgtOk.one (by kernel_rfl) (by kernel_rfl) (by kernel_rfl)) (by kernel_rfl) rfl))) (hB (BothS.ret Both.bool) hBn) hBn) hBn)) rfl (by kernel_rfl) (by kernel_rfl)) (hB (BothS.ite (hCm (Both.comp (nms' := ft38.nms ++ [(Str.ofString "_law_row")]) (SrcE.list (hMe X hF hV hLn)) (hTu (hL (hIx bM hV hI) (hL (hIx bM hV hI) hLn))) (TgtOk.one (by kernel_rfl) (by kernel_rfl) (by kernel_rfl)) (by kernel_rfl) rfl) (BothC.one gp (Both.comp (nms' := ft38.nms ++ [(Str.ofString "_law_row")]) (SrcE.list (hMe X hF hV hLn)) (hTu (hL (hIx bM hV hI) (hL (hIx bM hV hI) hLn))) (TgtOk.one (by kernel_rfl) (by kernel_rfl) (by kernel_rfl)) (by kernel_rfl) rfl))) (hB (BothS.ret Both.bool) hBn) hBn) (hB (BothS.ite (hCm (Both.comp (nms' := ft38.nms ++ [(Str.ofString "_law_row")]) (SrcE.list (hMe X hF hV hLn)) (hIx bM hV hI) (TgtOk.one (by kernel_rfl) (by kernel_rfl) (by kernel_rfl)) (by kernel_rfl) rfl) (BothC.one gp (Both.comp (nms' := ft38.nms ++ [(Str.ofString "_law_row")]) (SrcE.list (hMe X hF hV hLn)) (hIx bM hV hI) (TgtOk.one (by kernel_rfl) (by kernel_rfl) (by kernel_rfl)) (by kernel_rfl) rfl))) (hB (BothS.ret Both.bool) hBn) hBn) (hB (BothS.ret (hCm (hMe X hF hV hLn) (BothC.one cF (hMe X hF hV hLn)))) hBn)))))))
theorem b39 {C : Cx} (X : CxOk C tabs prg) (Y : GlobOk C globs) (Z : GDs C gds) (V : GVs C gvs) {F : Calls} {d : Nat} (hF : bZ C prg d F) : BothB C d ft39.sc ft39.nms false (w39 F) ft39.body := by
  exact (hB (hAs (hCa X hF (hL (hIx gV hV hI) (hL hV hLn)))) (hB (BothS.ite (hCm (hCa X hF (hL (hIx gV hV hI) (hL hV hLn))) (BothC.one gp hV)) (hB (BothS.ret Both.bool) hBn) hBn) (hB (BothS.ite (Both.and (BothBl.cons (hCm (hIx bM hV hI) (BothC.one cF hS)) (BothBl.one (hCm (hIx bM hV hI) (BothC.one cF hS))))) (hB (hEx (Both.bm fK hV (hL (hIx bM hV hI) hLn) rfl (by kernel_rfl) (by decide) (by decide))) hBn) hBn) (hB (BothS.ite (Both.and (BothBl.cons (hCm (hIx bM hV hI) (BothC.one cF hS)) (BothBl.one (hCm (hIx bM hV hI) (BothC.one cF hS))))) (hB (hEx (Both.bm fK hV (hL (hIx bM (hMe X hF (hIx gV hV hI) hLn) hI) hLn) rfl (by kernel_rfl) (by decide) (by decide))) hBn) hBn) (hB (BothS.ret Both.bool) hBn)))))
theorem b40 {C : Cx} (X : CxOk C tabs prg) (Y : GlobOk C globs) (Z : GDs C gds) (V : GVs C gvs) {F : Calls} {d : Nat} (hF : bZ C prg d F) : BothB C d ft40.sc ft40.nms false (w40 F) ft40.body := by
  exact (hB (hAs (hCa X hF (hL hV hLn))) (hB (hAs (hCa X hF (hL hV hLn))) (hB (hAs (hLs (hL (aG bO hV (aG aF (hCa X hF (hL hV (hL hI hLn))) hI)) (hL (aG bO (aG bO hV hI) (aG aF (aG bh (hCa X hF (hL hV (hL hI hLn))) hI) (aG dw hI hV))) hLn)))) (hB (BothS.ite (hCm (hIx gV hV hI) (BothC.one cF (hIx gV hV hI))) (hB (BothS.setL hV hI (aG dw (hIx gV hV hI) hI) rfl) hBn) hBn) (hB (hAs (aG aF (hCa X hF (hL hV (hL hI hLn))) hI)) (hB (hAs (hCa X hF (hL (hCa X hF (hL hV (hL hI hLn))) (hL hV (hL (aG bO hV hI) hLn))))) (hB (BothS.assignComp (nms' := ft40.nms ++ [(Str.ofString "_law_ring")]) (SrcE.list hV) (Both.new X hF (hL hV (hL hV (hL hV hLn))) (by kernel_rfl) (by kernel_rfl) rfl rfl (by decide)) (TgtOk.one (by kernel_rfl) (by kernel_rfl) (by kernel_rfl)) (by kernel_rfl) rfl (by kernel_rfl) (by kernel_rfl)) (hB (hAs (hLs hLn)) (hB (hAs (hLs hLn)) (hB (BothS.ite (hCm (aG aF (aG bh (hCa X hF (hL hV (hL hI hLn))) hI) hI) (BothC.one cF hI)) (hB (BothS.forX (SrcE.list (hCa X hF (hL hV (hL (aG aF (aG bh (hCa X hF (hL hV (hL hI hLn))) hI) hI) hLn)))) (hB (BothS.ite (Both.or (BothBl.cons (Both.not (hCa X hF (hL hV (hL hV (hL hV (hL hV hLn)))))) (BothBl.one (Both.not (hCa X hF (hL hV (hL hV (hL hV (hL hV (hL (aG aF (hIx bM hV hI) hI) hLn)))))))))) (hB (BothS.ret Both.bool) hBn) hBn) hBn) rfl (by kernel_rfl)) hBn) hBn) (hB (BothS.forL (Both.slice rfl rfl hV) (hB (BothS.ite (Both.not (hCa X hF (hL hV (hL (hCa X hF (hL (hIx gV hV hI) (hL hV (hL hV hLn)))) (hL hV (hL hV hLn)))))) (hB (BothS.ret Both.bool) hBn) hBn) (hB (BothS.ite (hCm (aG aF (aG bh hV hI) hI) (BothC.one cF hI)) (hB (BothS.setL hV hI (hMe X hF (hIx gV hV hI) hLn) rfl) hBn) hBn) (hB (BothS.ite (Both.not (hCa X hF (hL hV (hL hV (hL hV (hL hV (hL (aG aF (aG bh hV hI) hI) hLn))))))) (hB (BothS.ret Both.bool) hBn) hBn) hBn))) rfl (by kernel_rfl)) (hB (BothS.ret (hCa X hF (hL hV (hL hV (hL hV (hL hV (hL hI hLn))))))) hBn))))))))))))
end Ap.L08
end
section
namespace Ap.L08
open PySem
variable {d : Nat} {σ σ' : St} {Q : PQ} {E : PE}
theorem lW {ns : List Int} (k : Nat) {i : Int} (hi : i = k) (h : Q (.int (ns.getD k 0)) σ) : wpF prg (d + 1) 31 [.ilist (ns.map .int), .int i] σ Q E := by
  subst hi
  refine aY (fi := yr) rfl rfl ?_
  simp only [yr, List.map_cons, List.map_nil, Nat.reduceSub, List.replicate_zero, List.cons_append, List.nil_append, w31, ae, bD, bC, bG, aP, aD, dF, an, aN, ak, am, al, dH, yR, List.length_map, aO, zK, Int.ofNat_lt, bL, ar, aK]
  rw [List.getD_eq_getElem?_getD] at h
  by_cases hk : k < ns.length
  · simp only [hk, decide_true, co, ae, bz, aU, aN, aw, bG, az, i_l, Int.toNat_natCast, List.getElem?_map, List.getElem?_eq_getElem hk, Option.map_some, aB, aJ, aA, aI]
    rw [List.getElem?_eq_getElem hk] at h
    exact ⟨Int.natCast_nonneg k, h⟩
  · simp only [hk, decide_false, aR, aS, ai, ae, bz, e_c, aJ, aA, aI]
    rw [List.getElem?_eq_none (Nat.le_of_not_lt hk)] at h
    exact h
theorem mD {c k : Int} (hk : k.natAbs < 100) (h : Q (.int ((c * 48271 + 7919 * (k + 1) * (k + 3)).fmod 2147483647)) σ) : wpF prg (d + 1) 32 [.int c, .int k] σ Q E := by
  refine aY (fi := yy) rfl rfl ?_
  simp only [yy, List.map_cons, List.map_nil, Nat.reduceSub, List.replicate_zero, List.cons_append, List.nil_append, w32, ae, bz, aU, aN, aw, e_c, az, zm, Nat.reducePow, Int.reduceAbs, Nat.reduceLT, or_true, bG, dq, bN, ne_eq, Int.reduceEq, not_false_eq_true, aJ, aA, aI, true_and]
  exact ⟨.inl (by decide), .inr (by omega), h⟩
theorem du {v : AV} {lo hi : Int} (hv : cR v = true) (h : Q (.bool (amongB v lo hi)) σ) : wpF prg (d + 1) 1 [v, .int lo, .int hi] σ Q E := by
  refine aY (fi := fn1) rfl rfl ?_
  simp only [fn1, List.map_cons, List.map_nil, Nat.reduceSub, List.replicate_zero, List.cons_append, List.nil_append, w1, ae, bz, ja, bq, bJ, aN, bF, nG hv, aK, cv, fJ]
  cases v with
  | int i =>
    simp only [CU, ce, bq, bJ, aN, bF, nG (v := .int _) rfl, CS, dc, iZ, aK, cv, fJ, bC, bG, aP, aD, aO, zG]
    unfold amongB at h
    by_cases h1 : lo ≤ i
    · simp only [h1, decide_true, dZ, aD, cI, aO, zG, bL, ar, aK, cv, fJ, mm, aJ, aA, aI]
      simp only [h1, decide_true, Bool.true_and] at h
      exact h
    · simp only [h1, decide_false, bX, ar, aK, cv, fJ, cM, aJ, aA, aI]
      simp only [h1, decide_false, Bool.false_and] at h
      exact h
  | bool b =>
    simp only [Df, ce, bq, bJ, aN, bF, nG (v := .bool _) rfl, Do, dc, fD, aK, cv, fJ, cM, ar, aJ, aA, aI]
    exact h
  | obj a => cases hv
  | exn a => cases hv
  | _ => exact h
theorem jM {i lo hi : Int} (h : lo ≤ i ∧ i ≤ hi) : amongB (.int i) lo hi = true := by
  show (decide (lo ≤ i) && decide (i ≤ hi)) = true
  rw [decide_eq_true h.1, decide_eq_true h.2]; rfl
noncomputable def bd4 (a b c e : AV) : Bool := amongB a 1 20 && (match a with | .int i => amongB b 1 i | _ => false) && (amongB c 0 20 && amongB e 0 20)
theorem i44 : ((((0 + 1 + 1 + 1 + 1 : Nat) : Int)) == 4) = true := rfl
theorem sz {a b c e : AV} (ha : cR a = true) (hb : cR b = true) (hc : cR c = true) (he : cR e = true) (h : Q (.bool (bd4 a b c e)) σ) : wpF prg (d + 2) 2 [.tup [a, b, c, e]] σ Q E := by
  refine aY (fi := fn2) rfl rfl ?_
  simp only [fn2, List.map_cons, List.map_nil, Nat.reduceSub, List.replicate_zero, List.cons_append, List.nil_append, w2, ae, bD, ja, bq, bJ, aN, bF, nG (v := .tup _) rfl, AY, dc, fD, aK, cv, ma, iZ, ce, bC, dF, an, ak, am, al, dH, vd, List.length_cons, List.length_nil, Nat.reduceAdd, aP, aD, e_c, aO, yY, i44, bX, ar, bj, aU, aw, az, bA, Int.le_refl, Int.toNat_zero, List.getElem?_cons_zero, aB, aH, true_and]
  refine du ha ?_
  unfold bd4 at h
  revert h
  generalize hg : amongB a 1 20 = g
  intro h
  cases g with
  | false =>
    simp only [bF, dc, iZ, aK, cv, ma, fD, cM, ar, co, ae, bz, e_c, aJ, aA, aI]
    exact h
  | true =>
    cases a <;> first | cases hg | skip
    rename_i i
    simp only [bF, dc, fD, aK, cv, ma, iZ, ce, eY, ar, aR, aS, ai, ae, bD, bJ, bj, an, aU, aN, aw, e_c, az, bA, Int.reduceLE, Int.toNat_one, List.getElem?_cons_succ, List.getElem?_cons_zero, aB, ak, Int.le_refl, Int.toNat_zero, am, al, aH, true_and]
    refine du hb ?_
    revert h
    show Q (.bool (true && amongB b 1 i && _)) σ → _
    generalize amongB b 1 i = g
    intro h
    cases g with
    | false =>
      simp only [bF, dc, iZ, aK, co, ae, bz, e_c, aJ, aA, aI]
      exact h
    | true =>
      simp only [bF, dc, fD, aK, aR, aS, ai, ae, bz, ja, bq, bj, an, aU, aN, aw, e_c, az, bA, Int.reduceLE, Int.reduceToNat, List.getElem?_cons_succ, List.getElem?_cons_zero, aB, ak, am, al, aH, true_and]
      refine du hc ?_
      revert h
      generalize amongB c 0 20 = g
      intro h
      cases g with
      | false =>
        simp only [aK, cv, fJ, cM, ar, aJ, aA, aI]
        exact h
      | true =>
        simp only [aK, cv, fJ, ce, bq, bj, an, aU, aN, aw, e_c, az, bA, Int.reduceLE, Int.reduceToNat, List.getElem?_cons_succ, List.getElem?_cons_zero, aB, ak, am, al, aH, true_and]
        refine du he ?_
        simp only [aK, cv, fJ, mm, ar, aJ, aA, aI]
        exact h
noncomputable def Bnd (w r m b : Int) : Prop := (1 ≤ w ∧ w ≤ 20) ∧ (1 ≤ r ∧ r ≤ w) ∧ (0 ≤ m ∧ m ≤ 20) ∧ (0 ≤ b ∧ b ≤ 20)
theorem wW {w r m b : Int} (h : Bnd w r m b) : bd4 (.int w) (.int r) (.int m) (.int b) = true := by
  show (amongB (.int w) 1 20 && amongB (.int r) 1 w && (amongB (.int m) 0 20 && amongB (.int b) 0 20)) = true
  rw [jM h.1, jM h.2.1, jM h.2.2.1, jM h.2.2.2]; rfl
theorem oq {w r m b : Int} (t : Bnd w r m b) (h : Q .none σ) : wpF prg (d + 3) 3 [.tup [.int w, .int r, .int m, .int b]] σ Q E := by
  refine aY (fi := fn3) rfl rfl ?_
  simp only [fn3, List.map_cons, List.map_nil, Nat.reduceSub, List.replicate_zero, List.cons_append, List.nil_append, w3, ae, bD, bJ, bj, an, aN, ak, am, al, aH]
  refine sz rfl rfl rfl rfl ?_
  rw [wW t]
  simp only [bF, dc, fD, aK, aR, aS, ai, ij]
  exact h
theorem uR {v : AV} (hv : cR v = true) (t : amongB v 1 200 = true) (h : Q .none σ) : wpF prg (d + 2) 4 [v] σ Q E := by
  refine aY (fi := fn4) rfl rfl ?_
  simp only [fn4, List.map_cons, List.map_nil, Nat.reduceSub, List.replicate_zero, List.cons_append, List.nil_append, w4, ae, bD, bJ, bj, an, aN, ak, e_c, am, al, aH]
  refine du hv ?_
  rw [t]
  simp only [bF, dc, fD, aK, aR, aS, ai, ij]
  exact h
theorem rn {x : Str} (h : x.length ≤ 1000000) : nu [.str x] σ Q = Q (.int x.length) σ := propext ⟨fun ⟨_, e, _, q⟩ => by cases e; exact q, fun q => ⟨_, rfl, h, q⟩⟩
theorem AR {s : Str} : mc .str (.str s) = true := rfl
noncomputable def S40 (v : AV) : Prop := ∃ s : Str, v = .str s ∧ s.length ≤ 40
theorem uU {v : AV} {o p : Option AV} {R : QS} {EE : ES} (hv : S40 v) (h : R .next [p, some v] σ) :
    pd 1 (ad (bP (vBl (aX false (vO1 dY (vO1 (nY .str) (aa 1))) (aX false (bK (vON nu (ac (aa 1) ao)) (aM cGt (vC (.int 40)) bH)) (cU false)))) (ad (jh 3) ap) ap) ap) EE v [p, o] σ R := by
  obtain ⟨s, rfl, hs⟩ := hv
  have hg : decide ((s.length : Int) > 40) = false := decide_eq_false (by omega)
  simp only [mz, sU, ae, bD, ja, bq, bJ, bG, bF, nG (v := .str _) rfl, AR, dc, fD, aK, cv, ma, iZ, ce, bC, dF, an, ak, am, al, dH, rn (show s.length ≤ 1000000 by omega), aP, aD, e_c, aO, zC, hg, bX, ar, eY, aR, aS, ai]
  exact h
theorem vl {v : AV} {ts : List AV} (h : dS σ v = some ts) : qC v σ Q = Q (.bool true) σ := by
  cases v <;> first | cases h | skip
  · exact xK rfl
  · exact yx (cW h)
theorem oi {v : AV} {ts : List AV} (h : dS σ v = some ts) : gj v ts σ := by
  cases v <;> first | cases h | skip
  · trivial
  · exact cW h
theorem zU {n : Nat} {A : WS} {ρ : Loc} {QQ : QS} {EE : ES} {v : AV} {ts : List AV} (h : dS σ v = some ts) : yp n A ρ QQ EE v σ = forL (gj v ts) (pd n A EE) ts ρ σ QQ := propext ⟨fun ⟨_, e, q⟩ => by rw [h] at e; cases e; exact q, fun q => ⟨_, h, q⟩⟩
theorem xz {v : AV} {ts : List AV} {z : Bool} (h : dS σ v = some ts) : oList z [v] σ Q = mkL z ts σ Q := propext ⟨fun ⟨_, _, e1, e2, q⟩ => by cases e1; rw [h] at e2; cases e2; exact q, fun q => ⟨_, _, rfl, h, q⟩⟩
theorem uB {v : AV} {ts : List AV} (hs : dS σ v = some ts) (hl : ts.length ≤ 400) (ht : ∀ v ∈ ts, S40 v) (h : Q .none σ) : wpF prg (d + 1) 5 [v] σ Q E := by
  refine aY (fi := fn5) rfl rfl ?_
  have hg : decide ((ts.length : Int) > 400) = false := decide_eq_false (by omega)
  simp only [fn5, List.map_cons, List.map_nil, Nat.reduceSub, List.replicate_succ, List.replicate_zero, List.cons_append, List.nil_append, w5, ae, bD, ja, bq, bJ, aN, bF, vl hs, dc, fD, aK, cv, ma, iZ, ce, bC, dF, an, ak, am, al, dH, wx hs, aP, aD, e_c, aO, zC, hg, bX, ar, eY, aR, aS, ai, yW, zU hs]
  refine vf (fun ρ σ' => σ' = σ ∧ ∃ p o, ρ = [p, o]) ts (fun v hv ρ σ' R hi hR => ?_) (fun ρ σ' hi => ?_) _ _ ⟨rfl, _, _, rfl⟩
  · obtain ⟨rfl, p, o, rfl⟩ := hi
    exact ⟨oi hs, uU (ht v hv) (hR _ _ ⟨rfl, _, _, rfl⟩)⟩
  · obtain ⟨rfl, p, o, rfl⟩ := hi
    simp only [ai, aS, ij]
    exact ⟨oi hs, h⟩
end Ap.L08
end
section
namespace Ap.L08
open PySem
variable {d : Nat} {σ σ' : St} {Q : PQ} {E : PE}
noncomputable abbrev Po (b : Int) (t : Nat) : AObj := .inst 7 [(0, .int b), (1, .obj t)]
theorem qu {a : Nat} {b : Int} (h0 : σ a = some (.inst 7 [])) (h : ∀ t σ', σ t = Option.none → t ≠ a → σ' a = some (Po b t) → σ' t = some (.list []) → (∀ c, c ≠ a → c ≠ t → σ' c = σ c) → Q .none σ') : wpF prg (d + 1) 7 [.obj a, .int b] σ Q E := by
  refine aY (fi := fn7) rfl rfl ?_
  simp only [fn7, List.map_cons, List.map_nil, Nat.reduceSub, List.replicate_zero, List.cons_append, List.nil_append, w7, ae, bf, bG, cf, aN, bV h0 (f := 0) (by decide : (0 : Nat) < 100), ai, eW, am, nr]
  rw [show ∀ v : AV, cb 0 v [] = [(0, v)] from fun _ => rfl]
  intro t ht
  have ta : t ≠ a := fun q => by rw [q, aj] at ht; cases ht
  rw [bV (by rw [ag _ _ (Ne.symm ta)]; exact aj _ _ _) (h' := ?hh)]
  case hh => exact Nat.le_of_ble_eq_true rfl
  rw [show ∀ v x : AV, cb 1 v [(0, x)] = [(0, x), (1, v)] from fun _ _ => rfl]
  simp only [ai, aS, ij]
  refine h t _ (by rw [ag _ _ ta] at ht; exact ht) ta (aj _ _ _) ?_ ?_
  · rw [ag _ _ ta]; exact aj _ _ _
  · intro c h1 h2
    rw [ag _ _ h1, ag _ _ h2, ag _ _ h1]
noncomputable def cz (b : Int) (L : List AV) : Int := if (L.length : Int) - 1 - b > 0 then (L.length : Int) - 1 - b else 0
theorem pa0 {b : Int} {t : Nat} : aQ [(0, AV.int b), (1, .obj t)] 0 = some (.int b) := rfl
theorem pa1 {b : Int} {t : Nat} : aQ [(0, AV.int b), (1, .obj t)] 1 = some (.obj t) := rfl
theorem mV {a t : Nat} {b : Int} {L : List AV} (h1 : σ a = some (Po b t)) (h2 : σ t = some (.list L)) (h : Q (.int (cz b L)) σ) : wpF prg (d + 1) 8 [.obj a] σ Q E := by
  refine aY (fi := fn8) rfl rfl ?_
  simp only [fn8, List.map_cons, List.map_nil, Nat.reduceSub, List.replicate_zero, List.cons_append, List.nil_append, w8, ae, bz, dF, an, e_c, ak, aU, bJ, aN, bF, aq h1 pa1, am, al, dH, jx h2, aw, az, iy, aq h1 pa0, pc, aJ, aA, aI]
  exact h
theorem oJ {a t : Nat} {b : Int} {L : List AV} {v : AV} (h1 : σ a = some (Po b t)) (h2 : σ t = some (.list L)) (hl : L.length ≤ 1000) (h : Q (.int L.length) (upd σ t (.list (L ++ [v])))) : wpF prg (d + 1) 9 [.obj a, v] σ Q E := by
  refine aY (fi := fn9) rfl rfl ?_
  have ta : a ≠ t := fun q => by rw [q, h2] at h1; cases h1
  have h3 : upd σ t (.list (L ++ [v])) a = some (Po b t) := by rw [ag _ _ ta]; exact h1
  simp only [fn9, List.map_cons, List.map_nil, Nat.reduceSub, List.replicate_zero, List.cons_append, List.nil_append, w9, ae, cP, uQ, bJ, aN, bF, aq h1 pa1, nk (rc := rcL) (v := .obj t) (σ := σ) ⟨_, _, rfl, h2⟩, an, bG, ak, am, al, lA, iL h2 (show L.length ≤ 1000000 by omega), da, ai, bz, aU, dF, aq h3 pa1, dH, jx (aj σ t _), aw, e_c, az, iy, aJ, aA, aI]
  rw [List.length_append, show (((L.length + [v].length : Nat) : Int) - 1) = L.length by simp only [List.length_cons, List.length_nil]; omega]
  exact h
theorem fB {b : Int} {L : List AV} (hb : 0 ≤ b) : 0 ≤ cz b L ∧ cz b L ≤ L.length := by
  unfold cz
  split <;> omega
theorem qA {a t : Nat} {b : Int} {L : List AV} (hb : 0 ≤ b) (hl : L.length ≤ 1000) (h1 : σ a = some (Po b t)) (h2 : σ t = some (.list L)) (h : Q (.ilist (bW (cz b L) L.length)) σ) : wpF prg (d + 2) 10 [.obj a] σ Q E := by
  refine aY (fi := wX) rfl rfl ?_
  have f := fB (b := b) (L := L) hb
  simp only [wX, List.map_cons, List.map_nil, Nat.reduceSub, List.replicate_zero, List.cons_append, List.nil_append, w10, ae, bz, xe, an, bg, aN, aZ h1 (m := 31) rfl, am, aC]
  refine mV h1 h2 ?_
  simp only [ak, an, dF, bJ, aN, bF, aq h1 pa1, am, al, dH, jx h2, uT, Nat.reducePow, rW, aJ, aA, aI]
  exact ⟨⟨by omega, by omega, by omega⟩, h⟩
theorem iU {a t : Nat} {b n : Int} {L : List AV} {v : AV} (hb : 0 ≤ b) (h1 : σ a = some (Po b t)) (h2 : σ t = some (.list L)) (hn : cz b L ≤ n ∧ n < L.length) (hv : L[n.toNat]? = some v) (h : Q v σ) : wpF prg (d + 2) 11 [.obj a, .int n] σ Q E := by
  refine aY (fi := uv) rfl rfl ?_
  have f := fB (b := b) (L := L) hb
  simp only [uv, List.map_cons, List.map_nil, Nat.reduceSub, List.replicate_zero, List.cons_append, List.nil_append, w11, ae, bD, bJ, bj, an, bG, ak, bg, aN, aZ h1 (m := 31) rfl, am, aC]
  refine mV h1 h2 ?_
  simp only [ak, an, aU, dF, bJ, aN, bF, aq h1 pa1, am, al, dH, jx h2, aw, e_c, az, iy, aH]
  refine du rfl ?_
  rw [jM ⟨hn.1, by omega⟩]
  simp only [bF, dc, fD, aK, aR, aS, ai, ae, bz, aU, bJ, aN, aq h1 pa1, aw, bG, az, dM h2, hv, aB, aJ, aA, aI]
  exact ⟨by omega, h⟩
theorem qy {a t : Nat} {b : Int} {L : List AV} {v : AV} (hp : cR v = true) (h1 : σ a = some (Po b t)) (h2 : σ t = some (.list L)) (hn : amongB v (cz b L) (L.length - 1) = false) (h : E 6 σ) : wpF prg (d + 2) 11 [.obj a, v] σ Q E := by
  refine aY (fi := uv) rfl rfl ?_
  simp only [uv, List.map_cons, List.map_nil, Nat.reduceSub, List.replicate_zero, List.cons_append, List.nil_append, w11, ae, bD, bJ, bj, an, bG, ak, bg, aN, aZ h1 (m := 31) rfl, am, aC]
  refine mV h1 h2 ?_
  simp only [ak, an, aU, dF, bJ, aN, bF, aq h1 pa1, am, al, dH, jx h2, aw, e_c, az, iy, aH]
  refine du hp ?_
  rw [hn]
  simp only [bF, dc, iZ, aK, co, ae, AJ, BL]
  exact h
noncomputable abbrev S (w r m b t : Int) : AObj := .inst 8 [(2, .int w), (3, .int r), (4, .int m), (5, .int b), (6, .int t)]
theorem vz {a : Nat} {w r m : Int} (h0 : σ a = some (.inst 8 [])) (h : ∀ σ', σ' a = some (S w r m 0 0) → (∀ b, b ≠ a → σ' b = σ b) → Q .none σ') : wpF prg (d + 1) 12 [.obj a, .int w, .int r, .int m] σ Q E := by
  refine aY (fi := wO) rfl rfl ?_
  simp only [wO, List.map_cons, List.map_nil, Nat.reduceSub, List.replicate_zero, List.cons_append, List.nil_append, w12, ae, bf, bG, cf, aN, bV h0 (f := 2) (by decide : (0 : Nat) < 100), ai, cI]
  rw [show ∀ v : AV, cb 2 v [] = [(2, v)] from fun _ => rfl, bV (aj _ _ _) (h' := ?hh)]
  case hh => exact Nat.le_of_ble_eq_true rfl
  simp only [ai, ae, bf, dO, cf, aN]
  rw [show ∀ v x : AV, cb 3 v [(2, x)] = [(2, x), (3, v)] from fun _ _ => rfl, bV (aj _ _ _) (h' := ?hh)]
  case hh => exact Nat.le_of_ble_eq_true rfl
  simp only [ai, ae, bf, e_c, cf, aN]
  rw [show ∀ v x y : AV, cb 4 v [(2, x), (3, y)] = [(2, x), (3, y), (4, v)] from fun _ _ _ => rfl, bV (aj _ _ _) (h' := ?hh)]
  case hh => exact Nat.le_of_ble_eq_true rfl
  simp only [ai, ae, bf, e_c, cf, aN]
  rw [show ∀ v x y z : AV, cb 5 v [(2, x), (3, y), (4, z)] = [(2, x), (3, y), (4, z), (5, v)] from fun _ _ _ _ => rfl, bV (aj _ _ _) (h' := ?hh)]
  case hh => exact Nat.le_of_ble_eq_true rfl
  refine h _ (aj _ _ _) fun b hb => ?_
  simp only [ag _ _ hb]
theorem sl0 {a b c d e : AV} : aQ [(2, a), (3, b), (4, c), (5, d), (6, e)] 2 = some a := rfl
theorem sl1 {a b c d e : AV} : aQ [(2, a), (3, b), (4, c), (5, d), (6, e)] 3 = some b := rfl
theorem sl2 {a b c d e : AV} : aQ [(2, a), (3, b), (4, c), (5, d), (6, e)] 4 = some c := rfl
theorem sl3 {a b c d e : AV} : aQ [(2, a), (3, b), (4, c), (5, d), (6, e)] 5 = some d := rfl
theorem sl4 {a b c d e : AV} : aQ [(2, a), (3, b), (4, c), (5, d), (6, e)] 6 = some e := rfl
theorem sp3 {a b c d e v : AV} : cb 5 v [(2, a), (3, b), (4, c), (5, d), (6, e)] = [(2, a), (3, b), (4, c), (5, v), (6, e)] := rfl
theorem sp4 {a b c d e v : AV} : cb 6 v [(2, a), (3, b), (4, c), (5, d), (6, e)] = [(2, a), (3, b), (4, c), (5, d), (6, v)] := rfl
theorem tV {a : Nat} {w r m b t : Int} (h0 : σ a = some (S w r m b t)) (h : Q (.tup [.int b, .int t]) σ) : wpF prg (d + 1) 13 [.obj a] σ Q E := by
  refine aY (fi := yE) rfl rfl ?_
  simp only [yE, List.map_cons, List.map_nil, Nat.reduceSub, List.replicate_zero, List.cons_append, List.nil_append, w13, ae, bz, cX, an, bJ, aN, bF, aq h0 sl3, ak, aq h0 sl4, am, al, cn, aJ, aA, aI]
  exact h
noncomputable def hrd (r b t n : Int) : Int := if b + (n - b).fmod r ≤ t then b + (n - b).fmod r else b
theorem wu {a : Nat} {w r m b t n : Int} (h0 : σ a = some (S w r m b t)) (hr : r ≠ 0) (h : ∀ σ', σ' a = some (S w r m (hrd r b t n) t) → (∀ c, c ≠ a → σ' c = σ c) → Q .none σ') : wpF prg (d + 1) 15 [.obj a, .int n] σ Q E := by
  refine aY (fi := xQ) rfl rfl ?_
  unfold hrd at h
  simp only [xQ, List.map_cons, List.map_nil, Nat.reduceSub, List.replicate_succ, List.replicate_zero, List.cons_append, List.nil_append, w15, ae, aW, aU, bG, aw, bJ, aN, bF, aq h0 sl3, az, iy, aq h0 sl1, bN, ne_eq, hr, not_false_eq_true, bQ, nU, ai, bD, bC, cI, dq, aP, aD, aq h0 sl4, aO, zG, bL, ar, aK, true_and]
  by_cases hc : b + (n - b).fmod r ≤ t
  · simp only [hc, decide_true, co, ae, bf, aU, bJ, aN, bF, aq h0 sl3, aw, cI, az, dq, cf, bV h0 (f := 5) (by decide : (5 : Nat) < 100), sp3, ai, aS, ij]
    exact h _ (by rw [if_pos hc]; exact aj _ _ _) fun c hcc => ag _ _ hcc
  · simp only [hc, decide_false, aR, aS, ai, ij]
    exact h _ (by rw [if_neg hc]; exact h0) fun c _ => rfl
noncomputable def di (w m b t : Int) : Int := if b + w - 1 < t then (if m - 1 < b + w - 1 then m - 1 else b + w - 1) else (if m - 1 < t then m - 1 else t)
theorem tL {a : Nat} {w r m b t : Int} {v : AV} (h0 : σ a = some (S w r m b t)) (hv : cR v = true) (no : amongB v b (di w m b t) = false → E 5 σ)
    (yes : ∀ k, v = .int k → amongB v b (di w m b t) = true → r ≠ 0 ∧ ∀ σ', σ' a = some (S w r m b (if k = t then k + 1 else t)) → (∀ c, c ≠ a → σ' c = σ c) → Q (.int (k.fmod r)) σ') : wpF prg (d + 2) 14 [.obj a, v] σ Q E := by
  refine aY (fi := xZ) rfl rfl ?_
  simp only [xZ, List.map_cons, List.map_nil, Nat.reduceSub, List.replicate_succ, List.replicate_zero, List.cons_append, List.nil_append, w14, ae, aW, dF, an, bJ, aN, bF, aq h0 sl4, ak, aU, aq h0 sl3, aw, aq h0 sl0, az, dq, e_c, iy, aq h0 sl2, am, al, dH, AD, bQ, nU, ai, bD, bj, bG, cI, aH]
  refine du hv ?_
  simp only [bF, dc, aK]
  unfold di at no yes
  revert no yes
  generalize hg : amongB v b _ = g
  intro no yes
  cases g with
  | false => exact no rfl
  | true =>
    cases v <;> first | cases hg | skip
    rename_i k
    obtain ⟨hr, yes⟩ := yes k rfl rfl
    simp only [fD, aR, aS, ai, ae, bD, bC, bG, aP, aD, bJ, aN, bF, aq h0 sl4, aO, gR, bL, ar, aK]
    by_cases hc : k = t
    · subst hc
      simp only [beq_self_eq_true, co, ae, bf, aU, bG, aw, e_c, az, dq, cf, aN, bV h0 (f := 6) (by decide : (5 : Nat) < 100), sp4, ai, aS, bz, bJ, bF, aq (aj _ _ _) sl1, bN, ne_eq, hr, not_false_eq_true, aJ, aA, aI, true_and]
      exact yes _ (by rw [if_pos rfl]; exact aj _ _ _) fun c hcc => ag _ _ hcc
    · simp only [show (k == t) = false from beq_eq_false_iff_ne.mpr hc, aR, aS, ai, ae, bz, aU, bG, aw, bJ, aN, bF, aq h0 sl1, az, bN, ne_eq, hr, not_false_eq_true, aJ, aA, aI, true_and]
      exact yes _ (by rw [if_neg hc]; exact h0) fun c _ => rfl
theorem wP {a : Nat} {w r m b t : Int} {v : AV} (h0 : σ a = some (S w r m b t)) (hv : cR v = true) (hn : amongB v b (di w m b t) = false) (h : E 5 σ) : wpF prg (d + 2) 14 [.obj a, v] σ Q E :=
  tL h0 hv (fun _ => h) fun k e q => by rw [hn] at q; cases q
theorem vR {a : Nat} {w r m b t k : Int} (h0 : σ a = some (S w r m b t)) (hr : r ≠ 0) (hn : amongB (.int k) b (di w m b t) = true) (h : ∀ σ', σ' a = some (S w r m b (if k = t then k + 1 else t)) → (∀ c, c ≠ a → σ' c = σ c) → Q (.int (k.fmod r)) σ') :
    wpF prg (d + 2) 14 [.obj a, .int k] σ Q E :=
  tL h0 rfl (fun q => by rw [hn] at q; cases q) fun k' e q => by cases e; exact ⟨hr, h⟩
noncomputable abbrev Tk (r g p : Int) (o e : Nat) : AObj := .inst 9 [(7, .int r), (3, .int g), (8, .int p), (9, .obj o), (10, .obj e)]
theorem vh {a : Nat} {r g : Int} (h0 : σ a = some (.inst 9 [])) (h : ∀ o e σ', (o ≠ a ∧ e ≠ a ∧ o ≠ e ∧ σ o = Option.none ∧ σ e = Option.none) → σ' a = some (Tk r g 0 o e) → σ' o = some (.list []) → σ' e = some (.dictI []) → (∀ b, b ≠ a → b ≠ o → b ≠ e → σ' b = σ b) → Q .none σ') : wpF prg (d + 1) 16 [.obj a, .int r, .int g] σ Q E := by
  refine aY (fi := yJ) rfl rfl ?_
  simp only [yJ, List.map_cons, List.map_nil, Nat.reduceSub, List.replicate_zero, List.cons_append, List.nil_append, w16, ae, bf, bG, cf, aN, bV h0 (f := 7) (by decide : (0 : Nat) < 100), ai, cI]
  rw [show ∀ v : AV, cb 7 v [] = [(7, v)] from fun _ => rfl, bV (aj _ _ _) (h' := ?hh)]
  case hh => exact Nat.le_of_ble_eq_true rfl
  simp only [ai, ae, bf, e_c, cf, aN]
  rw [show ∀ v x : AV, cb 3 v [(7, x)] = [(7, x), (3, v)] from fun _ _ => rfl, bV (aj _ _ _) (h' := ?hh)]
  case hh => exact Nat.le_of_ble_eq_true rfl
  simp only [ai, ae, bf, eW, am, nr, cf, aN]
  rw [show ∀ v x y : AV, cb 8 v [(7, x), (3, y)] = [(7, x), (3, y), (8, v)] from fun _ _ _ => rfl]
  intro o ho
  have oa : o ≠ a := fun q => by rw [q, aj] at ho; cases ho
  rw [bV (by rw [ag _ _ (Ne.symm oa)]; exact aj _ _ _) (h' := ?hh)]
  case hh => exact Nat.le_of_ble_eq_true rfl
  simp only [ai, ae, bf, AK, cf, aN]
  rw [show ∀ v x y z : AV, cb 9 v [(7, x), (3, y), (8, z)] = [(7, x), (3, y), (8, z), (9, v)] from fun _ _ _ _ => rfl]
  intro e he
  have ea : e ≠ a := fun q => by rw [q, aj] at he; cases he
  have eo : o ≠ e := fun q => by rw [← q, ag _ _ oa, aj] at he; cases he
  rw [bV (by rw [ag _ _ (Ne.symm ea)]; exact aj _ _ _) (h' := ?hh)]
  case hh => exact Nat.le_of_ble_eq_true rfl
  rw [show ∀ v x y z u : AV, cb 10 v [(7, x), (3, y), (8, z), (9, u)] = [(7, x), (3, y), (8, z), (9, u), (10, v)] from fun _ _ _ _ _ => rfl]
  refine h o e _ ⟨oa, ea, eo, ?_, ?_⟩ (aj _ _ _) ?_ ?_ fun b ba bo be => ?_
  · rw [ag _ _ oa, ag _ _ oa, ag _ _ oa] at ho; exact ho
  · rw [ag _ _ ea, ag _ _ (Ne.symm eo), ag _ _ ea, ag _ _ ea, ag _ _ ea] at he; exact he
  · rw [ag _ _ oa, ag _ _ eo, ag _ _ oa]; exact aj _ _ _
  · rw [ag _ _ ea]; exact aj _ _ _
  · simp only [ag _ _ ba, ag _ _ bo, ag _ _ be]
theorem xR {t o e : Nat} {r g p : Int} {G : List AV} (ht : σ t = some (Tk r g p o e)) (ho : σ o = some (.list G)) (h : Q (.ilist G) σ) : wpF prg (d + 1) 19 [.obj t] σ Q E := by
  refine aY (fi := xH) rfl rfl ?_
  simp only [xH, List.map_cons, List.map_nil, Nat.reduceSub, List.replicate_zero, List.cons_append, List.nil_append, w19, ae, bz, dF, an, bJ, aN, bF, aq ht (f := 9) (v := .obj o) rfl, ak, am, al, dH, ml ho, rW, aJ, aA, aI]
  exact h
noncomputable def drain : Nat → Int → List (Int × AV) → List AV → Int × List (Int × AV) × List AV
  | 0, p, D, G => (p, D, G)
  | n + 1, p, D, G => ((aQ D p).map fun v => drain n (p + 1) (fQ p D) (G ++ [v])).getD (p, D, G)
theorem gB {n : Nat} {p : Int} {D : List (Int × AV)} {G : List AV} (h : aQ D p = Option.none) : drain n p D G = (p, D, G) := by
  cases n with
  | zero => rfl
  | succ n => unfold drain; rw [h]; rfl
theorem fS {n : Nat} {p : Int} {D : List (Int × AV)} {G : List AV} {v : AV} (h : aQ D p = some v) : drain (n + 1) p D G = drain n (p + 1) (fQ p D) (G ++ [v]) := by
  rw [drain, h]; rfl
theorem qc {D : List (Int × AV)} {k : Int} {v : AV} (h : aQ D k = some v) : (fQ k D).length + 1 ≤ D.length := by
  unfold aQ at h
  obtain ⟨p, hp, _⟩ := Option.map_eq_some_iff.mp h
  have hm := List.mem_of_find?_eq_some hp
  have hk := List.find?_some hp
  unfold fQ
  have := List.length_filter_lt_length_iff_exists (l := D) (p := fun e => decide (e.1 ≠ k)) |>.mpr ⟨p, hm, by simpa using hk⟩
  omega
theorem vn {D : List (Int × AV)} {k : Int} (h : aQ D k = Option.none) : il D k = false := by unfold il; rw [h]; rfl
theorem vg {D : List (Int × AV)} {k : Int} {v : AV} (h : aQ D k = some v) : il D k = true := by unfold il; rw [h]; rfl
noncomputable def qQ : WE := (bK (vO1 (ay 9 8) (aa 0)) (aM xX (vO1 (ay 9 10) (aa 0)) bH))
noncomputable def tB : WS := (ad (dz (vBm rcL dv (vO1 (ay 9 9) (aa 0)) (ac (vBm rcD wK (vO1 (ay 9 10) (aa 0)) (ac (vO1 (ay 9 8) (aa 0)) ao)) ao))) (ad (aL (aa 0) 9 8 (vO2 cV (vO1 (ay 9 8) (aa 0)) (vC (.int 1)))) ap))
theorem zQ {QQ : QS} {EE : ES} {t o e : Nat} {r g : Int} (h1 : o ≠ t) (h2 : e ≠ t) (h3 : o ≠ e) {x1 x2 x3 : Option AV} : ∀ (n : Nat) (p : Int) (D : List (Int × AV)) (G : List AV) (σ : St), D.length ≤ n → G.length + D.length ≤ 1000 → σ t = some (Tk r g p o e) → σ o = some (.list G) → σ e = some (.dictI D) →
    (∀ σ', σ' t = some (Tk r g (drain n p D G).1 o e) → σ' o = some (.list (drain n p D G).2.2) → σ' e = some (.dictI (drain n p D G).2.1) → (∀ b, b ≠ t → b ≠ o → b ≠ e → σ' b = σ b) → QQ .next [some (.obj t), x1, x2, x3] σ') →
    whN qQ tB EE (n + 1) [some (.obj t), x1, x2, x3] σ QQ := by
  intro n
  induction n with
  | zero =>
    intro p D G σ hl hs ht ho he h
    have hD : D = [] := List.length_eq_zero_iff.mp (Nat.le_zero.mp hl)
    subst hD
    rw [yO]
    unfold qQ
    simp only [bC, bJ, aN, bF, aq ht (f := 8) (v := .int p) rfl, aP, aD, aq ht (f := 10) (v := .obj e) rfl, aO, zc he, bL, ar, aK]
    rw [show il ([] : List (Int × AV)) p = false from rfl, wq]
    exact h σ ht ho he fun _ _ _ _ => rfl
  | succ n ih =>
    intro p D G σ hl hs ht ho he h
    rw [yO]
    unfold qQ
    simp only [bC, bJ, aN, bF, aq ht (f := 8) (v := .int p) rfl, aP, aD, aq ht (f := 10) (v := .obj e) rfl, aO, zc he, bL, ar, aK]
    cases hv : aQ D p with
    | none =>
      rw [gB hv] at h
      rw [vn hv, wq]
      exact h σ ht ho he fun _ _ _ _ => rfl
    | some v =>
      rw [fS hv] at h
      have hd := qc hv
      rw [vg hv, Ai]
      have ht1 : upd σ e (.dictI (fQ p D)) t = some (Tk r g p o e) := by rw [ag _ _ (Ne.symm h2)]; exact ht
      have ho1 : upd σ e (.dictI (fQ p D)) o = some (.list G) := by rw [ag _ _ h3]; exact ho
      have ht2 : upd (upd σ e (.dictI (fQ p D))) o (.list (G ++ [v])) t = some (Tk r g p o e) := by rw [ag _ _ (Ne.symm h1)]; exact ht1
      rw [show tB = (ad (dz (vBm rcL dv (vO1 (ay 9 9) (aa 0)) (ac (vBm rcD wK (vO1 (ay 9 10) (aa 0)) (ac (vO1 (ay 9 8) (aa 0)) ao)) ao))) (ad (aL (aa 0) 9 8 (vO2 cV (vO1 (ay 9 8) (aa 0)) (vC (.int 1)))) ap)) from rfl]
      simp only [ae, cP, uQ, bJ, aN, bF, aq ht (f := 9) (v := .obj o) rfl, nk (rc := rcL) (v := .obj o) (σ := σ) ⟨_, _, rfl, ho⟩, an, aq ht (f := 10) (v := .obj e) rfl, nk (rc := rcD) (v := .obj e) (σ := σ) ⟨_, _, rfl, he⟩, aq ht (f := 8) (v := .int p) rfl, ak, am, al, lA, Ct he hv (by omega), iL ho1 (by omega), da, ai, bf, aU, aq ht2 (f := 8) (v := .int p) rfl, aw, e_c, az, dq, cf, bV ht2 (show 5 < 100 by decide), aS, rT]
      refine ih (p + 1) (fQ p D) (G ++ [v]) _ (by omega) (by rw [List.length_append]; simp; omega) ?_ ?_ ?_ fun σ' a1 a2 a3 a4 => h σ' a1 a2 a3 fun b b1 b2 b3 => ?_
      · exact aj _ _ _
      · rw [ag _ _ h1]; exact aj _ _ _
      · rw [ag _ _ h2, ag _ _ (Ne.symm h3)]; exact aj _ _ _
      · rw [a4 b b1 b2 b3, ag _ _ b1, ag _ _ b2, ag _ _ b3]
noncomputable def cD (r g n p : Int) (x : AV) (D : List (Int × AV)) : List (Int × AV) :=
  if (n - p).fmod g < r then (if il D (p + (n - p).fmod g) then D else cb (p + (n - p).fmod g) x D) else D
theorem yv (k : Int) (v : AV) (D : List (Int × AV)) : (cb k v D).length ≤ D.length + 1 := lU k v D
theorem lE (r g n p : Int) (x : AV) (D : List (Int × AV)) : (cD r g n p x D).length ≤ D.length + 1 := by
  unfold cD
  split
  · split
    · omega
    · exact yv _ _ _
  · omega
theorem xF {t o e : Nat} {r g p n : Int} {x : AV} {D : List (Int × AV)} {G : List AV} (h1 : o ≠ t) (h2 : e ≠ t) (h3 : o ≠ e) (hg : g ≠ 0) (hs : G.length + D.length ≤ 900) (ht : σ t = some (Tk r g p o e)) (ho : σ o = some (.list G)) (he : σ e = some (.dictI D))
    (h : ∀ σ' p' D' G', drain (cD r g n p x D).length p (cD r g n p x D) G = (p', D', G') → σ' t = some (Tk r g p' o e) → σ' o = some (.list G') → σ' e = some (.dictI D') → (∀ b, b ≠ t → b ≠ o → b ≠ e → σ' b = σ b) → Q (.int (p'.fmod g)) σ') : wpF prg (d + 1) 17 [.obj t, .int n, x] σ Q E := by
  refine aY (fi := xY) rfl rfl ?_
  have fin : ∀ σ₁, σ₁ t = some (Tk r g p o e) → σ₁ o = some (.list G) → σ₁ e = some (.dictI (cD r g n p x D)) → (∀ b, b ≠ e → σ₁ b = σ b) → ∀ x1 x2 x3, whN qQ tB (eFn E) ((cD r g n p x D).length + 1) [some (.obj t), x1, x2, x3] σ₁ (vZ (ad (bI (vO2 bv (vO1 (ay 9 8) (aa 0)) (vO1 (ay 9 3) (aa 0)))) ap) (kFn Q) (eFn E)) := by
    intro σ₁ t1 o1 e1 k1 x1 x2 x3
    have := lE r g n p x D
    refine zQ h1 h2 h3 _ p _ G σ₁ (Nat.le_refl _) (by omega) t1 o1 e1 fun σ' a1 a2 a3 a4 => ?_
    simp only [ai, ae, bz, aU, bJ, aN, bF, aq a1 (f := 8) (v := .int (drain (cD r g n p x D).length p (cD r g n p x D) G).1) rfl, aw, aq a1 (f := 3) (v := .int g) rfl, az, bN, ne_eq, hg, not_false_eq_true, aJ, aA, aI, true_and]
    exact h σ' _ _ _ rfl a1 a2 a3 fun b b1 b2 b3 => (a4 b b1 b2 b3).trans (k1 b b3)
  unfold qQ tB at fin
  simp only [xY, List.map_cons, List.map_nil, Nat.reduceSub, List.replicate_succ, List.replicate_zero, List.cons_append, List.nil_append, w17, ae, aW, aU, bG, aw, bJ, aN, bF, aq ht (f := 8) (v := .int p) rfl, az, iy, aq ht (f := 3) (v := .int g) rfl, bN, ne_eq, hg, not_false_eq_true, bQ, qi, ai, bD, ja, bq, bC, dO, aP, aD, aq ht (f := 7) (v := .int r) rfl, aO, zK, bL, ar, aK, cv, fJ, true_and]
  unfold cD at fin
  by_cases c1 : (n - p).fmod g < r
  · rw [if_pos c1] at fin
    simp only [c1, decide_true, ce, bq, bC, aU, bJ, aN, bF, aq ht (f := 8) (v := .int p) rfl, aw, dO, az, dq, aP, aD, aq ht (f := 10) (v := .obj e) rfl, aO, An he, bL, ar, aK, cv, fJ, mm]
    cases c2 : il D (p + (n - p).fmod g) with
    | true =>
      rw [if_pos c2] at fin
      simp only [fD, aR, aS, ai, ae, rU]
      exact ⟨_, fin σ ht ho he (fun _ _ => rfl) _ _ _⟩
    | false =>
      rw [if_neg (by rw [c2]; exact Bool.false_ne_true)] at fin
      simp only [iZ, co, ae, zu, cI, AH, bJ, aN, bF, aq ht (f := 10) (v := .obj e) rfl, zY, aU, aq ht (f := 8) (v := .int p) rfl, aw, dO, az, dq, Ah he (show D.length ≤ 1000000 by omega), ai, aS, rU]
      exact ⟨_, fin _ (by rw [ag _ _ (Ne.symm h2)]; exact ht) (by rw [ag _ _ h3]; exact ho) (aj _ _ _) (fun b hb => ag _ _ hb) _ _ _⟩
  · rw [if_neg c1] at fin
    simp only [c1, decide_false, cM, ar, aK, aR, aS, ai, ae, rU]
    exact ⟨_, fin σ ht ho he (fun _ _ => rfl) _ _ _⟩
end Ap.L08
end
section
namespace Ap.L08
open PySem
variable {d : Nat} {σ σ' : St} {Q : PQ} {E : PE}
theorem gN {a b : Str} {K : Bool → Prop} : cEq (.str a) (.str b) σ K = K (a == b) := xO (p := .str a) (q := .str b) rfl rfl
noncomputable def Ws : List Str := [Str.ofString "send", Str.ofString "hand", Str.ofString "tell"]
theorem Cy : qh [.str (Str.ofString "send"), .str (Str.ofString "hand"), .str (Str.ofString "tell")] = some [Str.ofString "send", Str.ofString "hand", Str.ofString "tell"] := rfl
theorem zJ {x : Str} {ys : List AV} {ss : List Str} {K : Bool → Prop} (h : qh ys = some ss) : vt (.str x) (.tup ys) σ K = K (ss.any (· == x)) := propext ⟨fun ⟨_, _, _, e1, e2, e3, q⟩ => by cases e1; cases e2; rw [h] at e3; cases e3; exact q, fun q => ⟨_, _, _, rfl, rfl, h, q⟩⟩
noncomputable def wl (a b : AV) : Bool := match a with
  | .str x => Ws.any (· == x) && amongB b 0 999999
  | _ => false
theorem i22 : ((((0 + 1 + 1 : Nat) : Int)) == 2) = true := rfl
theorem vA {a b : AV} (ha : cR a = true) (hb : cR b = true) (h : Q (.bool (wl a b)) σ) : wpF prg (d + 2) 21 [.tup [a, b]] σ Q E := by
  refine aY (fi := xj) rfl rfl ?_
  simp only [xj, List.map_cons, List.map_nil, Nat.reduceSub, List.replicate_zero, List.cons_append, List.nil_append, w21, ae, bD, ja, bq, bJ, aN, bF, nG (v := .tup _) rfl, AY, dc, fD, aK, cv, ma, iZ, ce, bC, dF, an, ak, am, al, dH, vd, List.length_cons, List.length_nil, Nat.reduceAdd, aP, aD, e_c, aO, yY, i22, bX, ar, aU, aw, az, bA, Int.le_refl, Int.toNat_zero, List.getElem?_cons_zero, aB, nG ha, wQ, true_and]
  cases a with
  | str x =>
    simp only [AR, fD, aR, aS, ai, ae, bz, ja, bq, bC, aU, aN, aw, e_c, az, bA, Int.le_refl, Int.toNat_zero, List.getElem?_cons_zero, aB, aP, aD, aO, zJ Cy, bL, ar, aK, cv, fJ, true_and]
    have h' : Q (.bool (([Str.ofString "send", Str.ofString "hand", Str.ofString "tell"].any (· == x)) && amongB b 0 999999)) σ := h
    revert h'
    generalize ([Str.ofString "send", Str.ofString "hand", Str.ofString "tell"].any (· == x)) = g
    intro h'
    cases g with
    | false =>
      simp only [cM, ar, aJ, aA, aI]
      exact h'
    | true =>
      simp only [ce, bq, bj, an, aU, aN, aw, e_c, az, bA, Int.reduceLE, Int.toNat_one, List.getElem?_cons_succ, List.getElem?_cons_zero, aB, ak, am, al, aH, true_and]
      refine du hb ?_
      simp only [aK, cv, fJ, mm, ar, aJ, aA, aI]
      exact h'
  | obj a => cases ha
  | exn a => cases ha
  | _ => exact h
noncomputable def Told (v : AV) (σ : St) (b : Bool) : Prop := ∀ (d : Nat) (Q : PQ) (E : PE), Q (.bool b) σ → wpF prg (d + 2) 21 [v] σ Q E
theorem ot {a b : AV} {x : Bool} (ha : cR a = true) (hb : cR b = true) (hx : wl a b = x) : Told (.tup [a, b]) σ x := fun d Q E h => vA ha hb (hx ▸ h)
theorem ws_any {x : Str} : Ws.any (· == x) = true ↔ x ∈ Ws := by
  rw [List.any_eq_true]
  constructor
  · rintro ⟨y, hy, e⟩; rw [← beq_iff_eq.mp e]; exact hy
  · intro h; exact ⟨x, h, beq_self_eq_true _⟩
theorem iV {x : Str} {i : Int} (h : x ∈ Ws) (hi : 0 ≤ i ∧ i ≤ 999999) : wl (.str x) (.int i) = true := by
  show (Ws.any (· == x) && amongB (.int i) 0 999999) = true
  rw [ws_any.mpr h, jM hi]; rfl
theorem ef {v : AV} (t : Told v σ true) (h : Q .none σ) : wpF prg (d + 3) 22 [v] σ Q E := by
  refine aY (fi := xl) rfl rfl ?_
  simp only [xl, List.map_cons, List.map_nil, Nat.reduceSub, List.replicate_zero, List.cons_append, List.nil_append, w22, ae, bD, bJ, bj, an, aN, ak, am, al, aH]
  refine t _ _ _ ?_
  simp only [bF, dc, fD, aK, aR, aS, ai, ij]
  exact h
theorem wS : Str.ofString "send" ∈ Ws := List.mem_cons_self
theorem wH : Str.ofString "hand" ∈ Ws := List.mem_cons_of_mem _ List.mem_cons_self
theorem wT : Str.ofString "tell" ∈ Ws := List.mem_cons_of_mem _ (List.mem_cons_of_mem _ List.mem_cons_self)
theorem qHS : (Str.ofString "hand" == Str.ofString "send") = false := by decide +kernel
theorem qTS : (Str.ofString "tell" == Str.ofString "send") = false := by decide +kernel
theorem qTH : (Str.ofString "tell" == Str.ofString "hand") = false := by decide +kernel
structure Pm where
  w : Int
  r : Int
  m : Int
  b : Int
  g : Int
  ts : List AV
structure RA where
  u : Nat
  s : Nat
  k : Nat
  o : Nat
  e : Nat
  f : Nat
  ft : Nat
  bk : Nat
  bt : Nat
structure Mo where
  base : Int
  top : Int
  place : Int
  own : List AV
  early : List (Int × AV)
  F : List AV
  G : List AV
noncomputable abbrev Ru (A : RA) (P : Pm) : AObj := .inst 10 [(11, .tup [.int P.w, .int P.r, .int P.m, .int P.b]), (3, .int P.g), (12, .ilist P.ts), (13, .obj A.s), (14, .obj A.k), (15, .obj A.f), (16, .obj A.bk)]
structure Rn (A : RA) (P : Pm) (M : Mo) (σ : St) : Prop where
  u : σ A.u = some (Ru A P)
  s : σ A.s = some (S P.w P.g P.ts.length M.base M.top)
  k : σ A.k = some (Tk P.r P.g M.place A.o A.e)
  o : σ A.o = some (.list M.own)
  e : σ A.e = some (.dictI M.early)
  f : σ A.f = some (Po P.m A.ft)
  ft : σ A.ft = some (.list M.F)
  bk : σ A.bk = some (Po P.b A.bt)
  bt : σ A.bt = some (.list M.G)
structure Ds (A : RA) : Prop where
  d1 : A.o ≠ A.ft
  d2 : A.o ≠ A.bt
  d3 : A.ft ≠ A.bt
noncomputable def RA.mut (A : RA) : List Nat := [A.s, A.k, A.o, A.e, A.ft, A.bt]
variable {A : RA} {P : Pm} {M : Mo}
theorem aE {a b : Nat} {x y : AObj} (h1 : σ a = some x) (h2 : σ b = some y) (h : x ≠ y) : a ≠ b := fun q => by rw [q, h2] at h1; exact h (Option.some.inj h1).symm
theorem keep {a c : Nat} {o x : AObj} (h : σ a = some o) (hc : σ c = Option.none) : upd σ c x a = some o := by rw [ag _ _ (cm h hc)]; exact h
theorem Rn.same (R : Rn A P M σ) (k : ∀ c, σ c ≠ Option.none → σ' c = σ c) : Rn A P M σ' := by
  have k' : ∀ {c o}, σ c = some o → σ' c = some o := fun {c o} h => (k c (by rw [h]; intro q; cases q)).trans h
  exact ⟨k' R.u, k' R.s, k' R.k, k' R.o, k' R.e, k' R.f, k' R.ft, k' R.bk, k' R.bt⟩
theorem Rn.fresh (R : Rn A P M σ) {c : Nat} {x : AObj} (hc : σ c = Option.none) : Rn A P M (upd σ c x) := R.same fun a h => ag _ _ fun q => h (q ▸ hc)
theorem pE (σ : St) (a : Nat) (x y : AObj) : upd (upd σ a x) a y = upd σ a y := funext fun b => by
  by_cases h : b = a
  · subst h; rw [aj, aj]
  · rw [ag _ _ h, ag _ _ h, ag _ _ h]
theorem wA {v : AV} {ts : List AV} {u : Nat} {n : Nat} {fs gs : List (Nat × AV)} (hu : σ u = some (.inst n fs)) (h : dS σ v = some ts) : dS (upd σ u (.inst n gs)) v = some ts := by
  cases v <;> first | cases h | skip
  · rfl
  · have := cW h
    show (match upd σ u (.inst n gs) _ with | some (.list xs) => some xs | _ => Option.none) = some ts
    rw [ag _ _ (fun q => by rw [q, hu] at this; cases this), this]
theorem qN {u : Nat} {v : AV} {P : Pm} (h0 : σ u = some (.inst 10 [])) (hb : Bnd P.w P.r P.m P.b) (hg : 1 ≤ P.g ∧ P.g ≤ 200) (hs : dS σ v = some P.ts) (hl : P.ts.length ≤ 400) (ht : ∀ x ∈ P.ts, S40 x)
    (h : ∀ (A : RA) σ', A.u = u → Ds A → Rn A P ⟨0, 0, 0, [], [], [], []⟩ σ' → (∀ c, c ≠ u → σ c ≠ Option.none → σ' c = σ c) → (∀ c ∈ A.f :: A.bk :: A.mut, σ c = Option.none) → Q .none σ') : wpF prg (d + 4) 23 [.obj u, .tup [.int P.w, .int P.r, .int P.m, .int P.b], .int P.g, v] σ Q E := by
  refine aY (fi := xD) rfl rfl ?_
  simp only [xD, List.map_cons, List.map_nil, Nat.reduceSub, List.replicate_zero, List.cons_append, List.nil_append, w23, ae, cP, bj, an, bG, ak, am, al, aH]
  refine oq hb ?_
  simp only [da, ai, ae, cP, bj, an, cI, ak, am, al, aH]
  refine uR rfl (jM hg) ?_
  simp only [da, ai, ae, cP, bj, an, dO, ak, am, al, aH]
  refine uB hs hl ht ?_
  simp only [da, ai, ae, bf, bG, cf, aN, bV h0 (f := 11) (by decide : (0 : Nat) < 100), cI]
  rw [show ∀ v : AV, cb 11 v [] = [(11, v)] from fun _ => rfl, bV (aj _ _ _) (h' := ?hh)]
  case hh => exact Nat.le_of_ble_eq_true rfl
  simp only [ai, ae, bf, dF, an, dO, ak, am, al, dH]
  rw [show ∀ v x : AV, cb 3 v [(11, x)] = [(11, x), (3, v)] from fun _ _ => rfl, pE]
  simp only [xz (wA h0 hs), rW, cf, aN]
  rw [bV (aj _ _ _) (h' := ?hh)]
  case hh => exact Nat.le_of_ble_eq_true rfl
  simp only [ai, ae, bf, ou, an, aU, bG, aw, e_c, az, bA, Int.le_refl, Int.toNat_zero, List.getElem?_cons_zero, aB, ak, cI, dF, dO, am, al, dH, true_and]
  rw [show ∀ v x y : AV, cb 12 v [(11, x), (3, y)] = [(11, x), (3, y), (12, v)] from fun _ _ _ => rfl, pE]
  simp only [wx (wA h0 hs), ak, am, al, lj]
  have a1 := aj σ u (.inst 10 [(11, .tup [.int P.w, .int P.r, .int P.m, .int P.b]), (3, .int P.g), (12, .ilist P.ts)])
  have k1 : ∀ c, c ≠ u → upd σ u (.inst 10 [(11, .tup [.int P.w, .int P.r, .int P.m, .int P.b]), (3, .int P.g), (12, .ilist P.ts)]) c = σ c := fun c hc => ag _ _ hc
  generalize upd σ u (.inst 10 [(11, .tup [.int P.w, .int P.r, .int P.m, .int P.b]), (3, .int P.g), (12, .ilist P.ts)]) = σ1 at a1 k1 ⊢
  -- the sender
  intro s hs1
  refine vz (aj _ _ _) fun σ2 s2 q2 => ?_
  have su : u ≠ s := cm a1 hs1
  have u2 := (q2 _ su).trans (keep a1 hs1)
  simp only [iT, cf, aN]
  rw [bV u2 (h' := ?hh)]
  case hh => exact Nat.le_of_ble_eq_true rfl
  rw [show ∀ v x y z : AV, cb 13 v [(11, x), (3, y), (12, z)] = [(11, x), (3, y), (12, z), (13, v)] from fun _ _ _ _ => rfl]
  have u3 := aj σ2 u (.inst 10 [(11, .tup [.int P.w, .int P.r, .int P.m, .int P.b]), (3, .int P.g), (12, .ilist P.ts), (13, .obj s)])
  have s3 : upd σ2 u (.inst 10 [(11, .tup [.int P.w, .int P.r, .int P.m, .int P.b]), (3, .int P.g), (12, .ilist P.ts), (13, .obj s)]) s = some (S P.w P.g P.ts.length 0 0) := (ag _ _ (Ne.symm su)).trans s2
  have k3 : ∀ c, c ≠ u → c ≠ s → upd σ2 u (.inst 10 [(11, .tup [.int P.w, .int P.r, .int P.m, .int P.b]), (3, .int P.g), (12, .ilist P.ts), (13, .obj s)]) c = σ c := fun c c1 c2 => by rw [ag _ _ c1, q2 c c2, ag _ _ c2, k1 c c1]
  simp only [ai, ae, bf, ou, an, aU, bG, aw, e_c, az, bA, Int.reduceLE, Int.toNat_one, List.getElem?_cons_succ, List.getElem?_cons_zero, aB, ak, cI, am, al, lj, true_and]
  generalize upd σ2 u (.inst 10 [(11, .tup [.int P.w, .int P.r, .int P.m, .int P.b]), (3, .int P.g), (12, .ilist P.ts), (13, .obj s)]) = σ3 at u3 s3 k3 ⊢
  -- the taker
  intro k hk
  have uk : u ≠ k := cm u3 hk
  have sk : s ≠ k := cm s3 hk
  refine vh (aj _ _ _) fun o e σ4 ⟨ok, ek, oe, ho, he⟩ t4 o4 e4 q4 => ?_
  have u3' := keep (x := .inst 9 []) u3 hk
  have s3' := keep (x := .inst 9 []) s3 hk
  have uo : u ≠ o := cm u3' ho
  have ue : u ≠ e := cm u3' he
  have so : s ≠ o := cm s3' ho
  have se : s ≠ e := cm s3' he
  have u4 := (q4 _ uk uo ue).trans u3'
  have s4 := (q4 _ sk so se).trans s3'
  simp only [iT, cf, aN]
  rw [bV u4 (h' := ?hh)]
  case hh => exact Nat.le_of_ble_eq_true rfl
  rw [show ∀ v x y z t : AV, cb 14 v [(11, x), (3, y), (12, z), (13, t)] = [(11, x), (3, y), (12, z), (13, t), (14, v)] from fun _ _ _ _ _ => rfl]
  have u5 := aj σ4 u (.inst 10 [(11, .tup [.int P.w, .int P.r, .int P.m, .int P.b]), (3, .int P.g), (12, .ilist P.ts), (13, .obj s), (14, .obj k)])
  have n5 : ∀ c, c ≠ u → upd σ4 u (.inst 10 [(11, .tup [.int P.w, .int P.r, .int P.m, .int P.b]), (3, .int P.g), (12, .ilist P.ts), (13, .obj s), (14, .obj k)]) c = σ4 c := fun c hc => ag _ _ hc
  simp only [ai, ae, bf, ou, an, aU, bG, aw, e_c, az, bA, Int.reduceLE, Int.reduceToNat, List.getElem?_cons_succ, List.getElem?_cons_zero, aB, ak, am, al, lj, true_and]
  generalize upd σ4 u (.inst 10 [(11, .tup [.int P.w, .int P.r, .int P.m, .int P.b]), (3, .int P.g), (12, .ilist P.ts), (13, .obj s), (14, .obj k)]) = σ5 at u5 n5 ⊢
  have s5 := (n5 _ (Ne.symm su)).trans s4
  have t5 := (n5 _ (Ne.symm uk)).trans t4
  have o5 := (n5 _ (Ne.symm uo)).trans o4
  have e5 := (n5 _ (Ne.symm ue)).trans e4
  have k5 : ∀ c, c ≠ u → c ≠ s → c ≠ k → c ≠ o → c ≠ e → σ5 c = σ c := fun c c1 c2 c3 c4 c5 => by rw [n5 c c1, q4 c c3 c4 c5, ag _ _ c3, k3 c c1 c2]
  have ko : σ3 o = Option.none := by rw [ag _ _ ok] at ho; exact ho
  have ke : σ3 e = Option.none := by rw [ag _ _ ek] at he; exact he
  -- the post forth
  intro f hf
  have fu := cm u5 hf
  have fs := cm s5 hf
  have fk := cm t5 hf
  have fo := cm o5 hf
  have fe := cm e5 hf
  refine qu (aj _ _ _) fun ft σ6 hft ff f6 ft6 q6 => ?_
  have gu := cm (keep (x := .inst 7 []) u5 hf) hft
  have gs := cm (keep (x := .inst 7 []) s5 hf) hft
  have gk := cm (keep (x := .inst 7 []) t5 hf) hft
  have go := cm (keep (x := .inst 7 []) o5 hf) hft
  have ge := cm (keep (x := .inst 7 []) e5 hf) hft
  have u6 := (q6 _ fu gu).trans (keep u5 hf)
  have hft' : σ5 ft = Option.none := by rw [ag _ _ ff] at hft; exact hft
  simp only [iT, cf, aN]
  rw [bV u6 (h' := ?hh)]
  case hh => exact Nat.le_of_ble_eq_true rfl
  rw [show ∀ v x y z t w : AV, cb 15 v [(11, x), (3, y), (12, z), (13, t), (14, w)] = [(11, x), (3, y), (12, z), (13, t), (14, w), (15, v)] from fun _ _ _ _ _ _ => rfl]
  have u7 := aj σ6 u (.inst 10 [(11, .tup [.int P.w, .int P.r, .int P.m, .int P.b]), (3, .int P.g), (12, .ilist P.ts), (13, .obj s), (14, .obj k), (15, .obj f)])
  have n7 : ∀ c, c ≠ u → upd σ6 u (.inst 10 [(11, .tup [.int P.w, .int P.r, .int P.m, .int P.b]), (3, .int P.g), (12, .ilist P.ts), (13, .obj s), (14, .obj k), (15, .obj f)]) c = σ6 c := fun c hc => ag _ _ hc
  simp only [ai, ae, bf, ou, an, aU, bG, aw, e_c, az, bA, Int.reduceLE, Int.reduceToNat, List.getElem?_cons_succ, List.getElem?_cons_zero, aB, ak, am, al, lj, true_and]
  generalize upd σ6 u (.inst 10 [(11, .tup [.int P.w, .int P.r, .int P.m, .int P.b]), (3, .int P.g), (12, .ilist P.ts), (13, .obj s), (14, .obj k), (15, .obj f)]) = σ7 at u7 n7 ⊢
  have m7 : ∀ c, c ≠ u → c ≠ f → c ≠ ft → σ7 c = σ5 c := fun c c1 c2 c3 => by rw [n7 c c1, q6 c c2 c3, ag _ _ c2]
  have s7 := (m7 _ (Ne.symm su) fs gs).trans s5
  have t7 := (m7 _ (Ne.symm uk) fk gk).trans t5
  have o7 := (m7 _ (Ne.symm uo) fo go).trans o5
  have e7 := (m7 _ (Ne.symm ue) fe ge).trans e5
  have f7 := (n7 _ (Ne.symm fu)).trans f6
  have ft7 := (n7 _ (Ne.symm gu)).trans ft6
  -- the post back
  intro bk hbk
  have bu := cm u7 hbk
  refine qu (aj _ _ _) fun bt σ8 hbt bb b8 bt8 q8 => ?_
  have cu := cm (keep (x := .inst 7 []) u7 hbk) hbt
  have u8 := (q8 _ bu cu).trans (keep u7 hbk)
  have hbt' : σ7 bt = Option.none := by rw [ag _ _ bb] at hbt; exact hbt
  simp only [iT, cf, aN]
  rw [bV u8 (h' := ?hh)]
  case hh => exact Nat.le_of_ble_eq_true rfl
  rw [show ∀ v x y z t w a : AV, cb 16 v [(11, x), (3, y), (12, z), (13, t), (14, w), (15, a)] = [(11, x), (3, y), (12, z), (13, t), (14, w), (15, a), (16, v)] from fun _ _ _ _ _ _ _ => rfl]
  simp only [ai, aS, ij]
  have m8 : ∀ {c : Nat} {x : AObj}, σ7 c = some x → c ≠ u → upd σ8 u (Ru ⟨u, s, k, o, e, f, ft, bk, bt⟩ P) c = some x := fun {c x} hc c1 => by
    rw [ag _ _ c1, q8 c (cm hc hbk) (cm (keep (x := .inst 7 []) hc hbk) hbt)]; exact keep hc hbk
  have z7 : ∀ c, σ7 c = Option.none → c ≠ f → c ≠ ft → c ≠ u → σ5 c = Option.none := fun c h c1 c2 c3 => (m7 c c3 c1 c2).symm.trans h
  refine h ⟨u, s, k, o, e, f, ft, bk, bt⟩ _ rfl ⟨go, cm (keep (x := .inst 7 []) o7 hbk) hbt, cm (keep (x := .inst 7 []) ft7 hbk) hbt⟩
    ⟨aj _ _ _, m8 s7 (Ne.symm su), m8 t7 (Ne.symm uk), m8 o7 (Ne.symm uo), m8 e7 (Ne.symm ue), m8 f7 (Ne.symm fu), m8 ft7 (Ne.symm gu), ?_, ?_⟩ ?_ ?_
  · rw [ag _ _ (Ne.symm bu)]; exact b8
  · rw [ag _ _ (Ne.symm cu)]; exact bt8
  · intro c cu' hc
    have c1 : c ≠ s := fun q => hc (by rw [q, ← k1 _ (Ne.symm su)]; exact hs1)
    have e3 : σ3 c = σ c := k3 c cu' c1
    have c2 : c ≠ k := fun q => hc (by rw [← e3, q]; exact hk)
    have c3 : c ≠ o := fun q => hc (by rw [← e3, q]; exact ko)
    have c4 : c ≠ e := fun q => hc (by rw [← e3, q]; exact ke)
    have e5 : σ5 c = σ c := k5 c cu' c1 c2 c3 c4
    have c5 : c ≠ f := fun q => hc (by rw [← e5, q]; exact hf)
    have c6 : c ≠ ft := fun q => hc (by rw [← e5, q]; exact hft')
    have e7 : σ7 c = σ c := (m7 c cu' c5 c6).trans e5
    have c7 : c ≠ bk := fun q => hc (by rw [← e7, q]; exact hbk)
    have c8 : c ≠ bt := fun q => hc (by rw [← e7, q]; exact hbt')
    rw [ag _ _ cu', q8 c c7 c8, ag _ _ c7, e7]
  · have y1 : σ s = Option.none := (k1 _ (Ne.symm su)).symm.trans hs1
    have y2 : ∀ c, σ3 c = Option.none → c ≠ u → c ≠ s → σ c = Option.none := fun c h c1 c2 => (k3 c c1 c2).symm.trans h
    have y3 : ∀ c, σ5 c = Option.none → c ≠ u → σ c = Option.none := fun c h c1 => by
      by_cases q1 : c = s
      · rw [q1]; exact y1
      by_cases q2 : c = k
      · rw [q2]; exact y2 _ hk (Ne.symm uk) (Ne.symm sk)
      by_cases q3 : c = o
      · rw [q3]; exact y2 _ ko (Ne.symm uo) (Ne.symm so)
      by_cases q4 : c = e
      · rw [q4]; exact y2 _ ke (Ne.symm ue) (Ne.symm se)
      exact (k5 c c1 q1 q2 q3 q4).symm.trans h
    intro c hc
    unfold RA.mut at hc
    simp only [List.mem_cons, List.not_mem_nil, or_false] at hc
    rcases hc with q | q | q | q | q | q | q | q
    · rw [q]; exact y3 _ hf (Ne.symm fu)
    · rw [q]
      show σ bk = Option.none
      by_cases q1 : bk = f
      · rw [q1]; exact y3 _ hf (Ne.symm fu)
      by_cases q2 : bk = ft
      · rw [q2]; exact y3 _ hft' (Ne.symm gu)
      exact y3 _ (z7 _ hbk q1 q2 (Ne.symm bu)) (Ne.symm bu)
    · rw [q]; exact y1
    · rw [q]; exact y2 _ hk (Ne.symm uk) (Ne.symm sk)
    · rw [q]; exact y2 _ ko (Ne.symm uo) (Ne.symm so)
    · rw [q]; exact y2 _ ke (Ne.symm ue) (Ne.symm se)
    · rw [q]; exact y3 _ hft' (Ne.symm gu)
    · rw [q]
      show σ bt = Option.none
      by_cases q1 : bt = f
      · rw [q1]; exact y3 _ hf (Ne.symm fu)
      by_cases q2 : bt = ft
      · rw [q2]; exact y3 _ hft' (Ne.symm gu)
      exact y3 _ (z7 _ hbt' q1 q2 (Ne.symm cu)) (Ne.symm cu)
end Ap.L08
end
section
namespace Ap.L08
open PySem
variable {d : Nat} {σ σ' : St} {Q : PQ} {E : PE}
variable {A : RA} {P : Pm} {M : Mo}
theorem Rn.snd (R : Rn A P M σ) {b t : Int} (h1 : σ' A.s = some (S P.w P.g P.ts.length b t)) (k : ∀ c, c ≠ A.s → σ' c = σ c) : Rn A P { M with base := b, top := t } σ' where
  u := (k _ (aE R.u R.s (by intro h; cases h))).trans R.u
  s := h1
  k := (k _ (aE R.k R.s (by intro h; cases h))).trans R.k
  o := (k _ (aE R.o R.s (by intro h; cases h))).trans R.o
  e := (k _ (aE R.e R.s (by intro h; cases h))).trans R.e
  f := (k _ (aE R.f R.s (by intro h; cases h))).trans R.f
  ft := (k _ (aE R.ft R.s (by intro h; cases h))).trans R.ft
  bk := (k _ (aE R.bk R.s (by intro h; cases h))).trans R.bk
  bt := (k _ (aE R.bt R.s (by intro h; cases h))).trans R.bt
theorem Rn.pF (X : Ds A) (R : Rn A P M σ) {xs : List AV} : Rn A P { M with F := xs } (upd σ A.ft (.list xs)) where
  u := (ag _ _ (aE R.u R.ft (by intro h; cases h))).trans R.u
  s := (ag _ _ (aE R.s R.ft (by intro h; cases h))).trans R.s
  k := (ag _ _ (aE R.k R.ft (by intro h; cases h))).trans R.k
  o := (ag _ _ X.d1).trans R.o
  e := (ag _ _ (aE R.e R.ft (by intro h; cases h))).trans R.e
  f := (ag _ _ (aE R.f R.ft (by intro h; cases h))).trans R.f
  ft := aj _ _ _
  bk := (ag _ _ (aE R.bk R.ft (by intro h; cases h))).trans R.bk
  bt := (ag _ _ (Ne.symm X.d3)).trans R.bt
theorem Rn.pB (X : Ds A) (R : Rn A P M σ) {xs : List AV} : Rn A P { M with G := xs } (upd σ A.bt (.list xs)) where
  u := (ag _ _ (aE R.u R.bt (by intro h; cases h))).trans R.u
  s := (ag _ _ (aE R.s R.bt (by intro h; cases h))).trans R.s
  k := (ag _ _ (aE R.k R.bt (by intro h; cases h))).trans R.k
  o := (ag _ _ X.d2).trans R.o
  e := (ag _ _ (aE R.e R.bt (by intro h; cases h))).trans R.e
  f := (ag _ _ (aE R.f R.bt (by intro h; cases h))).trans R.f
  ft := (ag _ _ X.d3).trans R.ft
  bk := (ag _ _ (aE R.bk R.bt (by intro h; cases h))).trans R.bk
  bt := aj _ _ _
theorem Rn.tk (X : Ds A) (R : Rn A P M σ) {p : Int} {G : List AV} {D : List (Int × AV)} (h1 : σ' A.k = some (Tk P.r P.g p A.o A.e)) (h2 : σ' A.o = some (.list G)) (h3 : σ' A.e = some (.dictI D)) (k : ∀ c, c ≠ A.k → c ≠ A.o → c ≠ A.e → σ' c = σ c) : Rn A P { M with place := p, own := G, early := D } σ' where
  u := (k _ (aE R.u R.k (by intro h; cases h)) (aE R.u R.o (by intro h; cases h)) (aE R.u R.e (by intro h; cases h))).trans R.u
  s := (k _ (aE R.s R.k (by intro h; cases h)) (aE R.s R.o (by intro h; cases h)) (aE R.s R.e (by intro h; cases h))).trans R.s
  k := h1
  o := h2
  e := h3
  f := (k _ (aE R.f R.k (by intro h; cases h)) (aE R.f R.o (by intro h; cases h)) (aE R.f R.e (by intro h; cases h))).trans R.f
  ft := (k _ (aE R.ft R.k (by intro h; cases h)) (Ne.symm X.d1) (aE R.ft R.e (by intro h; cases h))).trans R.ft
  bk := (k _ (aE R.bk R.k (by intro h; cases h)) (aE R.bk R.o (by intro h; cases h)) (aE R.bk R.e (by intro h; cases h))).trans R.bk
  bt := (k _ (aE R.bt R.k (by intro h; cases h)) (Ne.symm X.d2) (aE R.bt R.e (by intro h; cases h))).trans R.bt
noncomputable def Mo.send (P : Pm) (M : Mo) (k : Int) (x : AV) : Mo := { M with top := if k = M.top then k + 1 else M.top, F := M.F ++ [.tup [.int (k.fmod P.g), x]] }
noncomputable def Mo.came (P : Pm) (M : Mo) (n : Int) (x : AV) : Int × List (Int × AV) × List AV := drain (cD P.r P.g n M.place x M.early).length M.place (cD P.r P.g n M.place x M.early) M.own
noncomputable def Mo.hand (P : Pm) (M : Mo) (n : Int) (x : AV) : Mo := { M with place := (M.came P n x).1, early := (M.came P n x).2.1, own := (M.came P n x).2.2, G := M.G ++ [.int ((M.came P n x).1.fmod P.g)] }
noncomputable def Mo.tell (P : Pm) (M : Mo) (n : Int) : Mo := { M with base := hrd P.g M.base M.top n }
theorem tD : A.s ∈ A.mut := List.mem_cons_self
theorem wJ : A.k ∈ A.mut := List.mem_cons_of_mem _ List.mem_cons_self
theorem vG : A.o ∈ A.mut := List.mem_cons_of_mem _ (List.mem_cons_of_mem _ List.mem_cons_self)
theorem yS : A.e ∈ A.mut := List.mem_cons_of_mem _ (List.mem_cons_of_mem _ (List.mem_cons_of_mem _ List.mem_cons_self))
theorem sr : A.ft ∈ A.mut := List.mem_cons_of_mem _ (List.mem_cons_of_mem _ (List.mem_cons_of_mem _ (List.mem_cons_of_mem _ List.mem_cons_self)))
theorem rY : A.bt ∈ A.mut := List.mem_cons_of_mem _ (List.mem_cons_of_mem _ (List.mem_cons_of_mem _ (List.mem_cons_of_mem _ (List.mem_cons_of_mem _ List.mem_cons_self))))
theorem nm {c x : Nat} (hc : c ∉ A.mut) (hx : x ∈ A.mut) : c ≠ x := fun q => hc (q ▸ hx)
theorem wR (R : Rn A P M σ) {k : Int} (hk : 0 ≤ k ∧ k ≤ 999999) (hn : amongB (.int k) M.base (di P.w P.ts.length M.base M.top) = false) (h : E 5 σ) : wpF prg (d + 4) 24 [.obj A.u, .tup [.str (Str.ofString "send"), .int k]] σ Q E := by
  refine aY (fi := kt) rfl rfl ?_
  simp only [kt, List.map_cons, List.map_nil, Nat.reduceSub, List.replicate_succ, List.replicate_zero, List.cons_append, List.nil_append, w24, ae, cP, bj, an, bG, ak, am, al, aH]
  refine ef (ot rfl rfl (iV wS hk)) ?_
  simp only [da, ai, ae, bD, bC, aU, bG, aw, e_c, az, bA, Int.le_refl, Int.toNat_zero, List.getElem?_cons_zero, aB, aP, aD, aO, gN, beq_self_eq_true, dZ, iK, ar, aK, co, aW, bg, bJ, aN, bF, aq R.u (f := 13) (v := .obj A.s) rfl, aZ R.s (m := 22) rfl, an, Int.reduceLE, Int.toNat_one, List.getElem?_cons_succ, ak, am, al, aC, true_and]
  exact wP R.s rfl hn h
theorem wo (X : Ds A) (R : Rn A P M σ) {k : Int} {x : AV} (hk : 0 ≤ k ∧ k ≤ 999999) (hg : P.g ≠ 0) (hF : M.F.length ≤ 1000) (hn : amongB (.int k) M.base (di P.w P.ts.length M.base M.top) = true) (hx : P.ts[k.toNat]? = some x)
    (h : ∀ σ', Rn A P (M.send P k x) σ' → (∀ c, c ∉ A.mut → σ' c = σ c) → Q (.int M.F.length) σ') : wpF prg (d + 4) 24 [.obj A.u, .tup [.str (Str.ofString "send"), .int k]] σ Q E := by
  refine aY (fi := kt) rfl rfl ?_
  simp only [kt, List.map_cons, List.map_nil, Nat.reduceSub, List.replicate_succ, List.replicate_zero, List.cons_append, List.nil_append, w24, ae, cP, bj, an, bG, ak, am, al, aH]
  refine ef (ot rfl rfl (iV wS hk)) ?_
  simp only [da, ai, ae, bD, bC, aU, bG, aw, e_c, az, bA, Int.le_refl, Int.toNat_zero, List.getElem?_cons_zero, aB, aP, aD, aO, gN, beq_self_eq_true, dZ, iK, ar, aK, co, aW, bg, bJ, aN, bF, aq R.u (f := 13) (v := .obj A.s) rfl, aZ R.s (m := 22) rfl, an, Int.reduceLE, Int.toNat_one, List.getElem?_cons_succ, ak, am, al, aC, true_and]
  refine vR R.s hg hn fun σ1 s1 k1 => ?_
  have R1 := R.snd s1 k1
  simp only [bQ, nU, ai, ae, bz, bg, bJ, aN, bF, aq R1.u (f := 15) (v := .obj A.f) rfl, aZ R1.f (m := 23) rfl, an, cX, cI, ak, aU, aq R1.u (f := 12) (v := .ilist P.ts) rfl, aw, bG, e_c, az, bA, Int.reduceLE, Int.toNat_one, List.getElem?_cons_succ, List.getElem?_cons_zero, aB, i_l, hk.1, hx, am, al, cn, aC, true_and]
  refine oJ R1.f R1.ft hF ?_
  simp only [aJ, aA, aI]
  refine h _ (R1.pF X) fun c hc => ?_
  rw [ag _ _ (nm hc sr), k1 c (nm hc tD)]
theorem xq (R : Rn A P M σ) {n : Int} (hk : 0 ≤ n ∧ n ≤ 999999) (hn : amongB (.int n) (cz P.m M.F) (M.F.length - 1) = false) (h : E 6 σ) : wpF prg (d + 4) 24 [.obj A.u, .tup [.str (Str.ofString "hand"), .int n]] σ Q E := by
  refine aY (fi := kt) rfl rfl ?_
  simp only [kt, List.map_cons, List.map_nil, Nat.reduceSub, List.replicate_succ, List.replicate_zero, List.cons_append, List.nil_append, w24, ae, cP, bj, an, bG, ak, am, al, aH]
  refine ef (ot rfl rfl (iV wH hk)) ?_
  simp only [da, ai, ae, bD, bC, aU, bG, aw, e_c, az, bA, Int.le_refl, Int.toNat_zero, List.getElem?_cons_zero, aB, aP, aD, aO, gN, qHS, bX, ar, aK, aR, aS, beq_self_eq_true, dZ, iK, co, qY, bg, bJ, aN, bF, aq R.u (f := 15) (v := .obj A.f) rfl, aZ R.f (m := 24) rfl, an, Int.reduceLE, Int.toNat_one, List.getElem?_cons_succ, ak, am, al, aC, true_and]
  exact qy rfl R.f R.ft hn h
theorem vy (X : Ds A) (R : Rn A P M σ) {n b : Int} {x : AV} (hk : 0 ≤ n ∧ n ≤ 999999) (hg : P.g ≠ 0) (hm : 0 ≤ P.m) (hG : M.G.length ≤ 1000) (hO : M.own.length + M.early.length ≤ 900) (hn : cz P.m M.F ≤ n ∧ n < M.F.length) (hx : M.F[n.toNat]? = some (.tup [.int b, x]))
    (h : ∀ σ', Rn A P (M.hand P b x) σ' → (∀ c, c ∉ A.mut → σ' c = σ c) → Q (.int M.G.length) σ') : wpF prg (d + 4) 24 [.obj A.u, .tup [.str (Str.ofString "hand"), .int n]] σ Q E := by
  refine aY (fi := kt) rfl rfl ?_
  simp only [kt, List.map_cons, List.map_nil, Nat.reduceSub, List.replicate_succ, List.replicate_zero, List.cons_append, List.nil_append, w24, ae, cP, bj, an, bG, ak, am, al, aH]
  refine ef (ot rfl rfl (iV wH hk)) ?_
  simp only [da, ai, ae, bD, bC, aU, bG, aw, e_c, az, bA, Int.le_refl, Int.toNat_zero, List.getElem?_cons_zero, aB, aP, aD, aO, gN, qHS, bX, ar, aK, aR, aS, beq_self_eq_true, dZ, iK, co, qY, bg, bJ, aN, bF, aq R.u (f := 15) (v := .obj A.f) rfl, aZ R.f (m := 24) rfl, an, Int.reduceLE, Int.toNat_one, List.getElem?_cons_succ, ak, am, al, aC, true_and]
  refine iU hm R.f R.ft hn hx ?_
  simp only [qm (xs := [_, _]) (is := [_, _]) rfl, ix, nU, qi, iq, ai, ae, bz, bg, bJ, aN, bF, aq R.u (f := 16) (v := .obj A.bk) rfl, aZ R.bk (m := 23) rfl, an, aq R.u (f := 14) (v := .obj A.k) rfl, aZ R.k (m := 32) rfl, cI, ak, dO, am, al, aC]
  refine xF (aE R.o R.k (by intro h; cases h)) (aE R.e R.k (by intro h; cases h)) (aE R.o R.e (by intro h; cases h)) hg hO R.k R.o R.e fun σ1 p' D' G' hz z1 z2 z3 z4 => ?_
  have R1 := R.tk X z1 z2 z3 z4
  simp only [ak, am, al, aC]
  refine oJ R1.bk R1.bt hG ?_
  simp only [aJ, aA, aI]
  have e : M.hand P b x = { M with place := p', own := G', early := D', G := M.G ++ [.int (p'.fmod P.g)] } := by
    have e0 : M.came P b x = (p', D', G') := hz
    unfold Mo.hand
    rw [e0]
  refine h _ ?_ fun c hc => ?_
  · rw [e]; exact R1.pB X
  · rw [ag _ _ (nm hc rY), z4 c (nm hc wJ) (nm hc vG) (nm hc yS)]
theorem ya (R : Rn A P M σ) {n : Int} (hk : 0 ≤ n ∧ n ≤ 999999) (hn : amongB (.int n) (cz P.b M.G) (M.G.length - 1) = false) (h : E 6 σ) : wpF prg (d + 4) 24 [.obj A.u, .tup [.str (Str.ofString "tell"), .int n]] σ Q E := by
  refine aY (fi := kt) rfl rfl ?_
  simp only [kt, List.map_cons, List.map_nil, Nat.reduceSub, List.replicate_succ, List.replicate_zero, List.cons_append, List.nil_append, w24, ae, cP, bj, an, bG, ak, am, al, aH]
  refine ef (ot rfl rfl (iV wT hk)) ?_
  simp only [da, ai, ae, bD, bC, aU, bG, aw, e_c, az, bA, Int.le_refl, Int.toNat_zero, List.getElem?_cons_zero, aB, aP, aD, aO, gN, qTS, bX, ar, aK, aR, aS, qTH, cP, bg, bJ, aN, bF, aq R.u (f := 13) (v := .obj A.s) rfl, aZ R.s (m := 18) rfl, an, aq R.u (f := 16) (v := .obj A.bk) rfl, aZ R.bk (m := 24) rfl, Int.reduceLE, Int.toNat_one, List.getElem?_cons_succ, ak, am, al, aC, true_and]
  exact qy rfl R.bk R.bt hn h
theorem wF (R : Rn A P M σ) {n a : Int} (hk : 0 ≤ n ∧ n ≤ 999999) (hg : P.g ≠ 0) (hm : 0 ≤ P.b) (hn : cz P.b M.G ≤ n ∧ n < M.G.length) (hx : M.G[n.toNat]? = some (.int a))
    (h : ∀ σ', Rn A P (M.tell P a) σ' → (∀ c, c ∉ A.mut → σ' c = σ c) → Q (.int (M.tell P a).base) σ') : wpF prg (d + 4) 24 [.obj A.u, .tup [.str (Str.ofString "tell"), .int n]] σ Q E := by
  refine aY (fi := kt) rfl rfl ?_
  simp only [kt, List.map_cons, List.map_nil, Nat.reduceSub, List.replicate_succ, List.replicate_zero, List.cons_append, List.nil_append, w24, ae, cP, bj, an, bG, ak, am, al, aH]
  refine ef (ot rfl rfl (iV wT hk)) ?_
  simp only [da, ai, ae, bD, bC, aU, bG, aw, e_c, az, bA, Int.le_refl, Int.toNat_zero, List.getElem?_cons_zero, aB, aP, aD, aO, gN, qTS, bX, ar, aK, aR, aS, qTH, cP, bg, bJ, aN, bF, aq R.u (f := 13) (v := .obj A.s) rfl, aZ R.s (m := 18) rfl, an, aq R.u (f := 16) (v := .obj A.bk) rfl, aZ R.bk (m := 24) rfl, Int.reduceLE, Int.toNat_one, List.getElem?_cons_succ, ak, am, al, aC, true_and]
  refine iU hm R.bk R.bt hn hx ?_
  simp only [ak, am, al, aC]
  refine wu R.s hg fun σ1 s1 k1 => ?_
  have R1 := R.snd s1 k1
  simp only [da, ai, ae, bz, aU, bg, bJ, aN, bF, aq R1.u (f := 13) (v := .obj A.s) rfl, aZ R1.s (m := 20) rfl, am, aC]
  refine tV R1.s ?_
  simp only [aw, e_c, az, bA, Int.le_refl, Int.toNat_zero, List.getElem?_cons_zero, aB, aJ, aA, aI, true_and]
  exact h _ R1 fun c hc => k1 c (nm hc tD)
theorem pR (R : Rn A P M σ) (h : Q (.ilist M.own) σ) : wpF prg (d + 2) 25 [.obj A.u] σ Q E := by
  refine aY (fi := xA) rfl rfl ?_
  simp only [xA, List.map_cons, List.map_nil, Nat.reduceSub, List.replicate_zero, List.cons_append, List.nil_append, w25, ae, bz, bg, bJ, aN, bF, aq R.u (f := 14) (v := .obj A.k) rfl, aZ R.k (m := 19) rfl, am, aC]
  exact xR R.k R.o h
end Ap.L08
end
section
namespace Ap.L08
open PySem
variable {d : Nat} {σ σ' : St} {Q : PQ} {E : PE}
theorem AM : pU [.int 1, .int 2] = some [1, 2] := rfl
noncomputable def bB4 : WS := (ad (bP (bK (vO2 bv (vO2 bE (aa 2) (vC (.int 16))) (vC (.int 6))) (aM cGt (vC (.int 3)) bH)) (ad (au 5 (vO2 bv (vO2 bE (aa 2) (vC (.int 96))) (vO2 gY (ee false (ac (vC (.int 21)) (ac (vC (.int 9)) ao))) (vO2 bv (vO2 bE (aa 2) (vC (.int 16))) (vC (.int 2)))))) ap) ap) (ad (bI (dj (ac (aa 3) (ac (vO2 cV (vC (.int 1)) (vO2 bv (vO2 bE (aa 1) (vC (.int 600))) (aa 3))) (ac (aa 4) (ac (aa 5) ao)))))) ap))
noncomputable def bB3 : WS := (ad (bP (bK (vO2 bv (vO2 bE (aa 2) (vC (.int 16))) (vC (.int 6))) (aM cEq (vC (.int 2)) bH)) (ad (au 5 (vO2 bv (vO2 bE (aa 2) (vC (.int 2016))) (vC (.int 21)))) ap) ap) bB4)
noncomputable def bB2 : WS := (ad (bP (bK (vO2 bv (vO2 bE (aa 2) (vC (.int 16))) (vC (.int 6))) (aM xS (dj (ac (vC (.int 1)) (ac (vC (.int 2)) ao))) bH)) (ad (au 4 (vO2 bv (vO2 bE (aa 2) (vC (.int 96))) (vC (.int 21)))) ap) ap) bB3)
noncomputable def bB1 : WS := (ad (bP (bK (vO2 bv (vO2 bE (aa 1) (vC (.int 5))) (vC (.int 6))) (aM cEq (vC (.int 1)) bH)) (ad (au 3 (vO2 cV (vC (.int 1)) (vO2 bv (vO2 bE (aa 1) (vC (.int 30))) (vC (.int 20))))) ap) ap) bB2)
theorem ux {ns : List Int} (h : ∀ w r m b, Bnd w r m b → Q (.tup [.int w, .int r, .int m, .int b]) σ) : wpF prg (d + 2) 33 [.ilist (ns.map .int)] σ Q E := by
  refine aY (fi := fn33) rfl rfl ?_
  rw [show fn33.body (wpF prg (d + 1)) = (ad (au 1 (aT (wpF prg (d + 1)) 32 (ac (aT (wpF prg (d + 1)) 31 (ac (aa 0) (ac (vC (.int 0)) ao))) (ac (vC (.int 0)) ao)))) (ad (au 2 (aT (wpF prg (d + 1)) 32 (ac (aT (wpF prg (d + 1)) 31 (ac (aa 0) (ac (vC (.int 1)) ao))) (ac (vC (.int 1)) ao)))) (ad (au 3 (vO2 cV (vC (.int 1)) (vO2 bv (aa 1) (vC (.int 5))))) (ad (au 4 (vO2 bv (aa 2) (vC (.int 4)))) (ad (au 5 (vO2 bv (vO2 bE (aa 2) (vC (.int 4))) (vC (.int 4)))) bB1))))) from rfl]
  simp only [List.map_cons, List.map_nil, fn33, Nat.reduceSub, List.replicate_succ, List.replicate_zero, List.cons_append, List.nil_append, ae, aW, bj, an, aN, ak, e_c, am, al, aH]
  refine lW 0 rfl ?_
  simp only [ak, an, e_c, am, al, aH]
  refine mD (by decide) ?_
  generalize (_ : Int).fmod 2147483647 = a
  simp only [bQ, sU, ai, ae, aW, bj, an, aN, ak, e_c, am, al, aH]
  refine lW 1 rfl ?_
  simp only [ak, an, e_c, am, al, aH]
  refine mD (by decide) ?_
  generalize (_ : Int).fmod 2147483647 = t
  have e1 := bB (a := a) (b := 5) (by decide)
  have e2 := bU (a := a) (b := 5) (by decide)
  have e3 := bB (a := t) (b := 4) (by decide)
  have e4 := bU (a := t) (b := 4) (by decide)
  have e5 := bB (a := t.fdiv 4) (b := 4) (by decide)
  have e6 := bU (a := t.fdiv 4) (b := 4) (by decide)
  have f1 := bB (a := a.fdiv 30) (b := 20) (by decide)
  have f2 := bU (a := a.fdiv 30) (b := 20) (by decide)
  have f3 := bB (a := t.fdiv 96) (b := 21) (by decide)
  have f4 := bU (a := t.fdiv 96) (b := 21) (by decide)
  have f5 := bB (a := t.fdiv 2016) (b := 21) (by decide)
  have f6 := bU (a := t.fdiv 2016) (b := 21) (by decide)
  have f7 := bB (a := t.fdiv 96) (b := 9) (by decide)
  have f8 := bU (a := t.fdiv 96) (b := 9) (by decide)
  have g1 := bB (a := t.fdiv 16) (b := 2) (by decide)
  have g2 := bU (a := t.fdiv 16) (b := 2) (by decide)
  have l4 : ∀ w m b : Int, (1 ≤ w ∧ w ≤ 20) → (0 ≤ m ∧ m ≤ 20) → (0 ≤ b ∧ b ≤ 20) → bB4 [some (.ilist (ns.map .int)), some (.int a), some (.int t), some (.int w), some (.int m), some (.int b)] σ (kFn Q) (eFn E) := by
    intro w m b hw hm hb
    have fin : ∀ b : Int, (0 ≤ b ∧ b ≤ 20) → w ≠ 0 ∧ Q (.tup [.int w, .int (1 + (a.fdiv 600).fmod w), .int m, .int b]) σ := fun b hb => by
      have y0 := bB (a := a.fdiv 600) (b := w) (by omega)
      have y1 := bU (a := a.fdiv 600) (b := w) (by omega)
      exact ⟨by omega, h _ _ _ _ ⟨hw, ⟨by omega, by omega⟩, hm, hb⟩⟩
    unfold bB4
    simp only [ae, bD, bC, aU, cI, aw, e_c, az, bT, ne_eq, Int.reduceEq, not_false_eq_true, Int.reduceAbs, Nat.reduceLT, and_true, bN, aP, aD, aO, zC, bL, ar, aK, true_and]
    generalize decide ((t.fdiv 16).fmod 6 > 3) = z
    cases z with
    | false =>
      simp only [aR, aS, ai, ae, bz, cX, an, dO, ak, aU, e_c, aw, bG, az, bT, ne_eq, Int.reduceEq, not_false_eq_true, Int.reduceAbs, Nat.reduceLT, and_true, bN, dq, fG, kZ, am, al, cn, aJ, aA, aI, true_and]
      exact fin b hb
    | true =>
      simp only [co, ae, aW, aU, cI, aw, e_c, az, bT, ne_eq, Int.reduceEq, not_false_eq_true, Int.reduceAbs, Nat.reduceLT, and_true, eW, an, ak, am, al, fx, bN, i_l, true_and]
      refine ⟨g1, ?_⟩
      have : (t.fdiv 16).fmod 2 = 0 ∨ (t.fdiv 16).fmod 2 = 1 := by omega
      rcases this with e | e
      · rw [e]
        simp only [Int.toNat_zero, List.getElem?_cons_zero, aB, az, bN, ne_eq, Int.reduceEq, not_false_eq_true, bQ, qK, ai, aS, ae, bz, cX, an, dO, ak, aU, e_c, aw, bG, bT, Int.reduceAbs, Nat.reduceLT, and_true, dq, fG, kZ, am, al, cn, aJ, aA, aI, true_and]
        exact fin _ ⟨f3, by omega⟩
      · rw [e]
        simp only [Int.toNat_one, List.getElem?_cons_succ, List.getElem?_cons_zero, aB, az, bN, ne_eq, Int.reduceEq, not_false_eq_true, bQ, qK, ai, aS, ae, bz, cX, an, dO, ak, aU, e_c, aw, bG, bT, Int.reduceAbs, Nat.reduceLT, and_true, dq, fG, kZ, am, al, cn, aJ, aA, aI, true_and]
        exact fin _ ⟨f7, by omega⟩
  have l3 : ∀ w m b : Int, (1 ≤ w ∧ w ≤ 20) → (0 ≤ m ∧ m ≤ 20) → (0 ≤ b ∧ b ≤ 20) → bB3 [some (.ilist (ns.map .int)), some (.int a), some (.int t), some (.int w), some (.int m), some (.int b)] σ (kFn Q) (eFn E) := by
    intro w m b hw hm hb
    unfold bB3
    simp only [ae, bD, bC, aU, cI, aw, e_c, az, bT, ne_eq, Int.reduceEq, not_false_eq_true, Int.reduceAbs, Nat.reduceLT, and_true, bN, aP, aD, aO, gR, bL, ar, aK, true_and]
    generalize ((t.fdiv 16).fmod 6 == 2) = z
    cases z <;> simp only [aR, aS, ai, co, ae, aW, aU, cI, aw, e_c, az, bT, ne_eq, Int.reduceEq, not_false_eq_true, Int.reduceAbs, Nat.reduceLT, and_true, bN, bQ, qK, true_and]
    · exact l4 _ _ _ hw hm hb
    · exact l4 _ _ _ hw hm ⟨f5, by omega⟩
  have l2 : ∀ w m b : Int, (1 ≤ w ∧ w ≤ 20) → (0 ≤ m ∧ m ≤ 20) → (0 ≤ b ∧ b ≤ 20) → bB2 [some (.ilist (ns.map .int)), some (.int a), some (.int t), some (.int w), some (.int m), some (.int b)] σ (kFn Q) (eFn E) := by
    intro w m b hw hm hb
    unfold bB2
    simp only [ae, bD, bC, aU, cI, aw, e_c, az, bT, ne_eq, Int.reduceEq, not_false_eq_true, Int.reduceAbs, Nat.reduceLT, and_true, bN, aP, aD, cX, an, ak, am, al, cn, aO, BS AM, bL, ar, aK, true_and]
    generalize List.any [1, 2] (fun x => x == (t.fdiv 16).fmod 6) = z
    cases z <;> simp only [aR, aS, ai, co, ae, aW, aU, cI, aw, e_c, az, bT, ne_eq, Int.reduceEq, not_false_eq_true, Int.reduceAbs, Nat.reduceLT, and_true, bN, bQ, ri, true_and]
    · exact l3 _ _ _ hw hm hb
    · exact l3 _ _ _ hw ⟨f3, by omega⟩ hb
  simp only [bQ, nU, ai, ae, aW, aU, e_c, aw, bG, az, bN, ne_eq, Int.reduceEq, not_false_eq_true, dq, qi, cI, ri, bT, Int.reduceAbs, Nat.reduceLT, and_true, qK, true_and]
  unfold bB1
  simp only [ae, bD, bC, aU, bG, aw, e_c, az, bT, ne_eq, Int.reduceEq, not_false_eq_true, Int.reduceAbs, Nat.reduceLT, and_true, bN, aP, aD, aO, gR, bL, ar, aK, true_and]
  generalize ((a.fdiv 5).fmod 6 == 1) = z
  cases z <;> simp only [aR, aS, ai, co, ae, aW, aU, e_c, aw, bG, az, bT, ne_eq, Int.reduceEq, not_false_eq_true, Int.reduceAbs, Nat.reduceLT, and_true, bN, dq, bQ, qi, true_and]
  · exact l2 _ _ _ ⟨by omega, by omega⟩ ⟨by omega, by omega⟩ ⟨by omega, by omega⟩
  · exact l2 _ _ _ ⟨by omega, by omega⟩ ⟨by omega, by omega⟩ ⟨by omega, by omega⟩
noncomputable def Sg1 (v : AV) : Prop := ∃ s : Str, v = .str s ∧ s.length = 1
theorem ones : ∀ {ys : List AV}, (∀ y ∈ ys, Sg1 y) → ∃ ss : List Str, ys = ss.map .str ∧ ∀ s ∈ ss, s.length = 1 := by
  intro ys
  induction ys with
  | nil => intro _; exact ⟨[], rfl, fun s h => nomatch h⟩
  | cons y ys ih =>
    intro h
    obtain ⟨s, rfl, hs⟩ := h y List.mem_cons_self
    obtain ⟨ss, rfl, hss⟩ := ih fun z hz => h z (List.mem_cons_of_mem _ hz)
    exact ⟨s :: ss, rfl, fun z hz => (List.mem_cons.mp hz).elim (fun e => e ▸ hs) (hss z)⟩
theorem AL {a b c e f g h i j k : Option AV} : dA [3, 4] [a, b, c, e, f, g, h, i, j, k] = [Option.none, Option.none, Option.none, e, f, Option.none, Option.none, Option.none, Option.none, Option.none] := rfl
theorem Ar {a b c e f g h i j k : Option AV} : dA [2, 5, 6] [a, b, c, e, f, g, h, i, j, k] = [Option.none, Option.none, c, Option.none, Option.none, g, h, Option.none, Option.none, Option.none] := rfl
theorem zF {a b c e f g h i j k : Option AV} : dA [2, 4] [a, b, c, e, f, g, h, i, j, k] = [Option.none, Option.none, c, Option.none, f, Option.none, Option.none, Option.none, Option.none, Option.none] := rfl
theorem DA {x : Int} (h0 : 0 ≤ x) (h1 : x < 11) : (1 + x).natAbs < 9223372036854775808 := by omega
theorem Cz {y : Int} (h0 : 0 ≤ y) (h1 : y < 39) : y.natAbs < 1152921504606846976 ∧ y ≤ 1000000 := by omega
theorem Bu {y : Int} (h0 : 0 ≤ y) (h1 : y ≤ 100) : y.natAbs < 1152921504606846976 ∧ y ≤ 1000000 := by omega
theorem BP {y : Int} {n : Nat} (h : n = (y - 0).toNat) (h1 : y < 39) : n ≤ 38 := by omega
theorem ne1 (n : Nat) : (n : Int) + 1 ≠ 0 := by omega
theorem ps1 (n : Nat) : 0 < (n : Int) + 1 := by omega
theorem so0 {x : Int} (h : 1 ≤ x) : x ≠ 0 := by omega
theorem so1 {x : Int} (h : 1 ≤ x) : 0 < x := h
theorem so2 {x y : Int} (h : x < y) (h' : y ≤ 100) : x < 1000000 := by omega
theorem xP {tl x : Str} {n : Nat} (h : tl.length ≤ 38) (hx : x.length ≤ 2) : (jb tl 0 n).length + x.length ≤ 1000000 ∧ (jb tl 0 n ++ x).length + (jb tl n tl.length).length ≤ 1000000 ∧ (jb tl 0 n ++ x ++ jb tl n tl.length).length ≤ 40 := by
  have c1 := lR tl 0 n
  have c2 := lR tl n tl.length
  have c4 := Str.length_append (jb tl 0 n) x
  have c5 := Str.length_append (jb tl 0 n ++ x) (jb tl n tl.length)
  omega
theorem vY {c mn so : Int} (h0 : 1 ≤ so) (h1 : so ≤ 100) (m0 : 0 ≤ mn) (m1 : mn ≤ 100) (h : ∀ ts : List AV, ts.length = mn.toNat → (∀ v ∈ ts, S40 v) → Q (.ilist ts) σ) : wpF prg (d + 2) 34 [.int c, .int mn, .int so] σ Q E := by
  refine aY (fi := xB) rfl rfl ?_
  have sl : (Str.ofString " !\"#$&'()*+,-./:;<=>?@ABCDEFGHIJKLMNOPQRSTUVWXYZ[\\]^_abcdefghijklmnopqrstuvwxyz{|}~").length = 83 := by decide +kernel
  simp only [xB, List.map_cons, List.map_nil, Nat.reduceSub, List.replicate_succ, List.replicate_zero, List.cons_append, List.nil_append, w34, ae, aW, e_c, bQ, qi, ai, bj, an, aN, ak, am, al, aH]
  generalize Str.ofString " !\"#$&'()*+,-./:;<=>?@ABCDEFGHIJKLMNOPQRSTUVWXYZ[\\]^_abcdefghijklmnopqrstuvwxyz{|}~" = sm at sl ⊢
  refine mD (by decide) ?_
  generalize (c * 48271 + 7919 * (5 + 1) * (5 + 3)).fmod 2147483647 = nb
  simp only [bQ, ri, ai, ae, aW, uQ, e_c, nk (rc := rcS) (v := .str (Str.ofString "")) (σ := σ) ⟨_, rfl⟩, an]
  rw [dN]
  refine ⟨rfl, ?_⟩
  rw [AL]
  simp only [mO, an, aU, fG, aw, e_c, az, bT, ne_eq, Int.reduceEq, not_false_eq_true, Int.reduceAbs, Nat.reduceLT, and_true, bN, ak, am, al, sB, Nat.reducePow, dh, true_and]
  have y0 := bB (a := nb.fdiv 77) (b := 39) (by decide)
  have y1 := bU (a := nb.fdiv 77) (b := 39) (by decide)
  generalize (nb.fdiv 77).fmod 39 = y at y0 y1 ⊢
  refine ⟨Cz y0 y1, ?_⟩
  refine lx Sg1 trivial _ _ (fun x hx R hR => ?_) fun ys yl yt => ?_
  · obtain ⟨j, _, rfl⟩ := List.mem_map.mp hx
    have e1 : (sm.length : Int) ≠ 0 := by rw [sl]; decide
    simp only [em, wC, aU, dO, aw, fG, e_c, az, bT, ne_eq, Int.reduceEq, not_false_eq_true, Int.reduceAbs, Nat.reduceLT, and_true, ni, bN, dq, zm, Nat.reducePow, dF, an, ak, am, al, dH, rn (show sm.length ≤ 1000000 by rw [sl]; decide), e1, true_and]
    have z0 := bB (a := nb) (b := 11) (by decide)
    have z1 := bU (a := nb) (b := 11) (by decide)
    refine ⟨.inr (DA z0 z1), ?_⟩
    have i0 := bB (a := nb.fdiv 7 + (0 + (j : Int)) * (1 + nb.fmod 11)) (b := (sm.length : Int)) (by rw [sl]; decide)
    have i1 := bU (a := nb.fdiv 7 + (0 + (j : Int)) * (1 + nb.fmod 11)) (b := (sm.length : Int)) (by rw [sl]; decide)
    exact ⟨_, _, rfl, rfl, ⟨i0, i1, by rw [sl]; decide⟩, fun y hy => hR _ ⟨y, rfl, hy⟩⟩
  obtain ⟨ss, rfl, hss⟩ := ones yt
  rw [gA, List.length_map] at yl
  rw [List.nil_append]
  simp only [de, ak, am, al, lA]
  refine ⟨_, ss, rfl, rfl, ⟨by decide +kernel, hss, Nat.le_trans (BP yl y1) (by decide)⟩, fun tl tl1 => ?_⟩
  have tl2 : tl.length ≤ 38 := by rw [tl1]; exact BP yl y1
  have tl6 : tl.length ≤ 1000000 := Nat.le_trans tl2 (by decide)
  have e2 : (tl.length : Int) + 1 ≠ 0 := ne1 _
  simp only [bQ, qK, ai, ae, aW, aU, fG, aw, e_c, az, bT, ne_eq, Int.reduceEq, not_false_eq_true, Int.reduceAbs, Nat.reduceLT, and_true, dF, an, kZ, ak, am, al, dH, rn tl6, dq, bN, e2, xr, true_and]
  have a0 := bB (a := nb.fdiv 5000) (b := (tl.length : Int) + 1) (ps1 _)
  generalize (nb.fdiv 5000).fmod ((tl.length : Int) + 1) = ah at a0 ⊢
  rw [dN]
  refine ⟨rfl, ?_⟩
  rw [Ar]
  simp only [mO, an, bG, ak, am, al, sB, Nat.reducePow, dh]
  refine ⟨Bu m0 m1, ?_⟩
  refine lx S40 trivial _ _ (fun x hx R hR => ?_) fun ts tn tt => ?_
  · obtain ⟨j, _, rfl⟩ := List.mem_map.mp hx
    have sn : so ≠ 0 := so0 h0
    simp only [em, wC, aU, kZ, aw, gZ, az, xV, dF, an, ni, cI, bN, ne_eq, sn, not_false_eq_true, ak, am, al, dH, zA, Ag, yI, true_and]
    refine ⟨⟨a0, tl6⟩, ?_⟩
    have q0 := bB (a := 0 + (j : Int)) (b := so) (so1 h0)
    have q1 := bU (a := 0 + (j : Int)) (b := so) (so1 h0)
    refine ⟨⟨q0, so2 q1 h1⟩, ?_⟩
    generalize (0 + (j : Int)).fmod so = k at q0 q1 ⊢
    have c3 : (Aa k).length ≤ 2 := PyProof.Rows.toString_length_le q0 (by decide) (Int.lt_of_lt_of_le q1 h1)
    obtain ⟨v1, v2, v3⟩ := xP (n := ah.toNat) tl2 c3
    refine ⟨v1, ⟨a0, tl6⟩, v2, ?_⟩
    exact hR _ ⟨_, rfl, v3⟩
  rw [gA] at tn
  rw [List.nil_append]
  simp only [de, bQ, uq, ai, ae, bD, bC, aU, fG, aw, e_c, az, bT, ne_eq, Int.reduceEq, not_false_eq_true, Int.reduceAbs, Nat.reduceLT, and_true, bN, aP, aD, aO, gR, bL, ar, aK, true_and]
  cases hc : ((nb.fdiv 200).fmod 4 == 1) with
  | false =>
    simp only [aR, aS, ai, ae, bz, iY, aJ, aA, aI]
    exact h ts (by rw [tn, Int.sub_zero]) tt
  | true =>
    simp only [co, ae, aW]
    rw [dN]
    refine ⟨rfl, ?_⟩
    rw [zF]
    simp only [wU, an, iY, ak, am, al, BE, dh]
    have el : (lV ts).length = ts.length := by unfold lV; rw [List.length_map, List.length_zipIdx]
    refine lx S40 trivial _ _ (fun x hx R hR => ?_) fun us un ut => ?_
    · obtain ⟨i, hi⟩ := List.getElem?_of_mem hx
      obtain ⟨y, hy, rfl⟩ := qs hi
      have sy := tt y (List.mem_of_getElem? hy)
      have sn : so ≠ 0 := so0 h0
      simp only [yg, wC, oP, aU, eW, an, nW, ak, e_c, am, al, fx, aw, dF, bC, ni, cI, az, bN, ne_eq, sn, not_false_eq_true, aP, aD, fG, bT, Int.reduceEq, Int.reduceAbs, Nat.reduceLT, and_true, aO, gR, bL, ar, dH, sZ, true_and]
      cases hb : ((i : Int).fmod so == (nb.fdiv 800).fmod so) with
      | true =>
        simp only [if_true, i_l, Int.reduceLE, Int.toNat_one, List.getElem?_cons_succ, List.getElem?_cons_zero, aB, true_and]
        exact hR _ ⟨_, rfl, by decide +kernel⟩
      | false =>
        simp only [Bool.false_eq_true, if_false, i_l, Int.le_refl, Int.toNat_zero, List.getElem?_cons_zero, aB, true_and]
        exact hR _ sy
    rw [List.nil_append]
    simp only [de, bQ, uq, ai, aS, ae, bz, iY, aJ, aA, aI]
    exact h us (by rw [un, el, tn, Int.sub_zero]) ut
end Ap.L08
end
section
namespace Ap.L08
open PySem
variable {d : Nat} {σ σ' : St} {Q : PQ} {E : PE}
theorem last_le {w m b t k : Int} : k ≤ di w m b t ↔ k ≤ t ∧ k < b + w ∧ k < m := by
  unfold di
  split <;> split <;> omega
theorem dJ {i lo hi : Int} (h : amongB (.int i) lo hi = true) : lo ≤ i ∧ i ≤ hi := by
  have h' : (decide (lo ≤ i) && decide (i ≤ hi)) = true := h
  rw [Bool.and_eq_true] at h'
  exact ⟨of_decide_eq_true h'.1, of_decide_eq_true h'.2⟩
theorem uD : ∀ (n : Nat) (p : Int) (D : List (Int × AV)) (G : List AV), p = G.length → (drain n p D G).1 = (drain n p D G).2.2.length := by
  intro n
  induction n with
  | zero => intro p D G h; exact h
  | succ n ih =>
    intro p D G h
    cases hv : aQ D p with
    | none => rw [gB hv]; exact h
    | some v => rw [fS hv]; exact ih _ _ _ (by rw [h, List.length_append]; rfl)
theorem oF : ∀ (n : Nat) (p : Int) (D : List (Int × AV)) (G : List AV), (drain n p D G).2.2.length + (drain n p D G).2.1.length ≤ G.length + D.length := by
  intro n
  induction n with
  | zero => intro p D G; exact Nat.le_refl _
  | succ n ih =>
    intro p D G
    cases hv : aQ D p with
    | none => rw [gB hv]; exact Nat.le_refl _
    | some v =>
      rw [fS hv]
      have := ih (p + 1) (fQ p D) (G ++ [v])
      have h2 := qc hv
      rw [List.length_append] at this
      have h3 : [v].length = 1 := rfl
      omega
variable {P : Pm} {M : Mo} {KF KG : List Int}
noncomputable def tx (P : Pm) (k : Int) : AV := (P.ts[k.toNat]?).getD .none
structure Pk (P : Pm) : Prop where
  b : Bnd P.w P.r P.m P.b
  g1 : P.w + P.r + P.m ≤ P.g
  g2 : P.w + P.r + P.b ≤ P.g
structure Inv (P : Pm) (M : Mo) (KF KG : List Int) : Prop where
  b0 : 0 ≤ M.base
  bp : M.base ≤ M.place
  pt : M.place ≤ M.top
  tb : M.top ≤ M.base + P.w
  tn : M.top ≤ P.ts.length
  pl : M.place = M.own.length
  own : M.own = P.ts.take M.own.length
  F : M.F = KF.map fun k => .tup [.int (k.fmod P.g), tx P k]
  kf : ∀ (i : Nat) (k : Int), KF[i]? = some k → 0 ≤ k ∧ k < M.top ∧ M.top + i + 1 ≤ k + P.w + KF.length
  G : M.G = KG.map fun a => .int (a.fmod P.g)
  kg : ∀ (j : Nat) (a : Int), KG[j]? = some a → 0 ≤ a ∧ a ≤ M.place ∧ ((M.own.length + M.early.length : Nat) : Int) + j + 1 ≤ a + (P.r - 1) + KG.length
  er : ∀ e ∈ M.early, M.place < e.1 ∧ e.1 < M.place + P.r ∧ e.1 < M.top ∧ e.2 = tx P e.1
  nd : (M.early.map (·.1)).Nodup
theorem pW {k p g : Int} (hg : 0 < g) : (k.fmod g - p).fmod g = (k - p).fmod g := by
  rw [Int.fmod_eq_emod_of_nonneg k (by omega), Int.fmod_eq_emod_of_nonneg _ (by omega), Int.fmod_eq_emod_of_nonneg _ (by omega)]
  have e := Int.emod_add_mul_ediv k g
  have e2 : k - p = (k % g - p) + g * (k / g) := by omega
  rw [e2, Int.add_mul_emod_self_left]
theorem mi {d g : Int} (hg : 0 < g) (h1 : - g < d - d.fmod g) (h2 : d - d.fmod g < g) : d.fmod g = d := by
  rw [Int.fmod_eq_emod_of_nonneg d (by omega)] at h1 h2 ⊢
  have e := Int.emod_add_mul_ediv d g
  generalize d / g = q at e
  have hq : q = 0 := by
    rcases Int.lt_trichotomy q 0 with h | h | h
    · have := Int.mul_le_mul_of_nonneg_left (show q ≤ -1 by omega) (Int.le_of_lt hg)
      omega
    · exact h
    · have := Int.mul_le_mul_of_nonneg_left (show 1 ≤ q by omega) (Int.le_of_lt hg)
      omega
  rw [hq, Int.mul_zero] at e
  omega
theorem vw : ∀ (n : Nat) (l : List Int) (a : Int), l.Nodup → (∀ x ∈ l, a < x ∧ x ≤ a + n) → l.length ≤ n := by
  intro n
  induction n with
  | zero =>
    intro l a _ h
    cases l with
    | nil => exact Nat.le_refl _
    | cons x l => have := h x List.mem_cons_self; omega
  | succ n ih =>
    intro l a nd h
    have hl : l.length ≤ (l.erase (a + n + 1)).length + 1 := by
      rw [List.length_erase]
      split <;> omega
    have := ih (l.erase (a + n + 1)) a (nd.erase _) fun x hx => by
      obtain ⟨h1, h2⟩ := (List.Nodup.mem_erase_iff nd).mp hx
      have := h x h2
      omega
    omega
theorem wD {D : List (Int × AV)} {p : Int} {v : AV} (h : aQ D p = some v) : (p, v) ∈ D := by
  unfold aQ at h
  obtain ⟨e, he, rfl⟩ := Option.map_eq_some_iff.mp h
  have hm := List.mem_of_find?_eq_some he
  have hk : e.1 = p := by simpa using List.find?_some he
  rw [← hk]; exact hm
theorem oN {D : List (Int × AV)} {p : Int} (h : aQ D p = Option.none) : ∀ e ∈ D, e.1 ≠ p := by
  unfold aQ at h
  intro e he q
  have := List.find?_eq_none.mp (Option.map_eq_none_iff.mp h) e he
  simp [q] at this
theorem uH {ts : List AV} {n : Nat} {v : AV} (h : ts[n]? = some v) : ts.take (n + 1) = ts.take n ++ [v] := by
  rw [List.take_add_one, h]; rfl
theorem uK {top lim : Int} (ht : top ≤ P.ts.length) : ∀ (n : Nat) (p : Int) (D : List (Int × AV)) (G : List AV), D.length ≤ n → p = G.length → G = P.ts.take G.length → p ≤ top → (∀ e ∈ D, p ≤ e.1 ∧ e.1 < lim ∧ e.1 < top ∧ e.2 = tx P e.1) → (D.map (·.1)).Nodup →
    (drain n p D G).2.2 = P.ts.take (drain n p D G).2.2.length ∧ p ≤ (drain n p D G).1 ∧ (drain n p D G).1 ≤ top ∧ (∀ e ∈ (drain n p D G).2.1, (drain n p D G).1 < e.1 ∧ e.1 < lim ∧ e.1 < top ∧ e.2 = tx P e.1) ∧ ((drain n p D G).2.1.map (·.1)).Nodup := by
  intro n
  induction n with
  | zero =>
    intro p D G hl hp hG hpt hD nd
    have : D = [] := List.length_eq_zero_iff.mp (Nat.le_zero.mp hl)
    subst this
    exact ⟨hG, Int.le_refl _, hpt, (fun _ h => nomatch h), nd⟩
  | succ n ih =>
    intro p D G hl hp hG hpt hD nd
    cases hv : aQ D p with
    | none =>
      rw [gB hv]
      exact ⟨hG, Int.le_refl _, hpt, fun e he => by have := hD e he; have := oN hv e he; exact ⟨by omega, by omega, by omega, (hD e he).2.2.2⟩, nd⟩
    | some v =>
      rw [fS hv]
      have hm := wD hv
      obtain ⟨_, _, q3, q4⟩ := hD _ hm
      have hlt : G.length < P.ts.length := by have : p < top := q3; omega
      have hg : P.ts[G.length]? = some v := by
        have q4' : v = tx P p := q4
        rw [q4', List.getElem?_eq_getElem hlt]
        unfold tx
        rw [show p.toNat = G.length by omega, List.getElem?_eq_getElem hlt]; rfl
      have hd := qc hv
      obtain ⟨r1, r2, r3, r4, r5⟩ := ih (p + 1) (fQ p D) (G ++ [v]) (by omega) (by rw [List.length_append, hp]; rfl) (by rw [List.length_append]; show _ = P.ts.take (G.length + 1); rw [uH hg, ← hG]) (by have : p < top := q3; omega)
        (fun e he => by
          unfold fQ at he
          obtain ⟨h1, h2⟩ := List.mem_filter.mp he
          have := hD e h1
          have h2' : e.1 ≠ p := by simpa using h2
          exact ⟨by omega, by omega, by omega, this.2.2.2⟩)
        (by unfold fQ; exact (List.filter_sublist.map _).nodup nd)
      exact ⟨r1, by omega, r3, r4, r5⟩
theorem yz {D : List (Int × AV)} {k : Int} {v : AV} (h : il D k = false) : cb k v D = D ++ [(k, v)] ∧ ∀ e ∈ D, e.1 ≠ k := by
  have hl : aQ D k = Option.none := by
    unfold il at h
    cases e : aQ D k with
    | none => rfl
    | some v => rw [e] at h; cases h
  have hn := oN hl
  refine ⟨?_, hn⟩
  unfold cb
  rw [if_neg]
  intro q
  obtain ⟨e, he, hk⟩ := List.any_eq_true.mp q
  exact hn e he (by simpa using hk)
theorem Inv.send (I : Inv P M KF KG) (Y : Pk P) {k : Int} {x : AV} (hk : amongB (.int k) M.base (di P.w P.ts.length M.base M.top) = true) (hx : P.ts[k.toNat]? = some x) : Inv P (M.send P k x) (KF ++ [k]) KG := by
  have ha := dJ hk
  have hl := last_le.mp ha.2
  have h0 := I.b0
  have h1 := I.bp
  have h2 := I.pt
  have h3 := I.tb
  have h4 := I.tn
  have ht : M.top ≤ (if k = M.top then k + 1 else M.top) ∧ (if k = M.top then k + 1 else M.top) ≤ M.top + 1 ∧ (if k = M.top then k + 1 else M.top) ≤ M.base + P.w ∧ (if k = M.top then k + 1 else M.top) ≤ P.ts.length ∧ k < (if k = M.top then k + 1 else M.top) := by
    split <;> omega
  obtain ⟨t1, t2, t3, t4, t5⟩ := ht
  have et : (M.send P k x).top = (if k = M.top then k + 1 else M.top) := rfl
  generalize (if k = M.top then k + 1 else M.top) = top' at t1 t2 t3 t4 t5 et
  refine ⟨h0, h1, by rw [et]; exact Int.le_trans h2 t1, by rw [et]; exact t3, by rw [et]; exact t4, I.pl, I.own, ?_, ?_, I.G, I.kg, ?_, I.nd⟩
  · show M.F ++ [_] = _
    rw [I.F, List.map_append]
    unfold tx
    simp only [List.map_cons, List.map_nil, hx, Option.getD_some]
  · intro i k' hi
    rw [et]
    by_cases c : i < KF.length
    · rw [List.getElem?_append_left c] at hi
      have := I.kf i k' hi
      rw [List.length_append]
      simp only [List.length_cons, List.length_nil]
      omega
    · rw [List.getElem?_append_right (by omega)] at hi
      have hi0 : i - KF.length = 0 := by
        cases e : i - KF.length with
        | zero => rfl
        | succ n => rw [e] at hi; cases hi
      rw [hi0] at hi
      have hk' : k = k' := Option.some.inj hi
      rw [List.length_append]
      simp only [List.length_cons, List.length_nil]
      omega
  · intro e he
    have := I.er e he
    rw [et]
    exact ⟨this.1, this.2.1, by have := this.2.2.1; omega, this.2.2.2⟩
theorem Inv.hand (I : Inv P M KF KG) (Y : Pk P) {i : Nat} {k : Int} (hi : KF[i]? = some k) (hr : (KF.length : Int) - 1 - P.m ≤ i) : Inv P (M.hand P (k.fmod P.g) (tx P k)) KF (KG ++ [(M.came P (k.fmod P.g) (tx P k)).1]) := by
  obtain ⟨bw, br, bm, bb⟩ := Y.b
  have g1 := Y.g1
  have g2 := Y.g2
  have hg : 0 < P.g := by omega
  have h1 := I.bp
  have h2 := I.pt
  have h3 := I.tb
  obtain ⟨k0, k1, k2⟩ := I.kf i k hi
  -- what is put by
  have pb : (∀ e ∈ cD P.r P.g (k.fmod P.g) M.place (tx P k) M.early, M.place ≤ e.1 ∧ e.1 < M.place + P.r ∧ e.1 < M.top ∧ e.2 = tx P e.1) ∧ ((cD P.r P.g (k.fmod P.g) M.place (tx P k) M.early).map (·.1)).Nodup := by
    have old : ∀ e ∈ M.early, M.place ≤ e.1 ∧ e.1 < M.place + P.r ∧ e.1 < M.top ∧ e.2 = tx P e.1 := fun e he => by have := I.er e he; exact ⟨by omega, this.2.1, this.2.2.1, this.2.2.2⟩
    unfold cD
    rw [pW hg]
    by_cases c : (k - M.place).fmod P.g < P.r
    · rw [if_pos c]
      have s0 := bB (a := k - M.place) hg
      have e := mi (d := k - M.place) hg (by omega) (by omega)
      rw [e] at c s0 ⊢
      rw [show M.place + (k - M.place) = k by omega]
      cases ch : il M.early k with
      | true => rw [if_pos rfl]; exact ⟨old, I.nd⟩
      | false =>
        rw [if_neg Bool.false_ne_true]
        obtain ⟨pe, pn⟩ := yz (v := tx P k) ch
        rw [pe]
        refine ⟨fun e he => ?_, ?_⟩
        · rcases List.mem_append.mp he with h | h
          · exact old e h
          · rw [List.mem_singleton.mp h]
            exact ⟨by show M.place ≤ k; omega, by show k < _; omega, k1, rfl⟩
        · rw [List.map_append, List.nodup_append]
          refine ⟨I.nd, by simp, ?_⟩
          intro a ha b hb
          obtain ⟨e, he, rfl⟩ := List.mem_map.mp ha
          have : b = k := by simpa using hb
          rw [this]
          exact pn e he
    · rw [if_neg c]; exact ⟨old, I.nd⟩
  have dl := uD (cD P.r P.g (k.fmod P.g) M.place (tx P k) M.early).length M.place (cD P.r P.g (k.fmod P.g) M.place (tx P k) M.early) M.own I.pl
  have dt := oF (cD P.r P.g (k.fmod P.g) M.place (tx P k) M.early).length M.place (cD P.r P.g (k.fmod P.g) M.place (tx P k) M.early) M.own
  have pl := lE P.r P.g (k.fmod P.g) M.place (tx P k) M.early
  obtain ⟨d1, d2, d3, d4, d5⟩ := uK (P := P) (lim := M.place + P.r) I.tn _ M.place _ M.own (Nat.le_refl _) I.pl I.own h2 pb.1 pb.2
  have ec : M.came P (k.fmod P.g) (tx P k) = drain (cD P.r P.g (k.fmod P.g) M.place (tx P k) M.early).length M.place (cD P.r P.g (k.fmod P.g) M.place (tx P k) M.early) M.own := rfl
  unfold Mo.hand
  rw [ec]
  generalize drain (cD P.r P.g (k.fmod P.g) M.place (tx P k) M.early).length M.place (cD P.r P.g (k.fmod P.g) M.place (tx P k) M.early) M.own = R at d1 d2 d3 d4 d5 dl dt
  obtain ⟨p', D', G'⟩ := R
  have dl' : p' = G'.length := dl
  have dt' : G'.length + D'.length ≤ M.own.length + (cD P.r P.g (k.fmod P.g) M.place (tx P k) M.early).length := dt
  have d2' : M.place ≤ p' := d2
  have fk : D'.length ≤ (P.r - 1).toNat := by
    have := vw (P.r - 1).toNat (D'.map (·.1)) p' d5 fun x hx => by
      obtain ⟨e, he, rfl⟩ := List.mem_map.mp hx
      have := d4 e he
      have q1 : p' < e.1 := this.1
      omega
    rw [List.length_map] at this; exact this
  refine ⟨I.b0, Int.le_trans h1 d2, d3, h3, I.tn, dl, d1, I.F, I.kf, ?_, ?_, ?_, d5⟩
  · show M.G ++ [_] = _
    rw [I.G, List.map_append]; rfl
  · intro j a hj
    show 0 ≤ a ∧ a ≤ p' ∧ ((G'.length + D'.length : Nat) : Int) + j + 1 ≤ a + (P.r - 1) + ((KG ++ [p']).length : Nat)
    rw [List.length_append]
    simp only [List.length_cons, List.length_nil]
    have hj' : (KG ++ [p'])[j]? = some a := hj
    by_cases c : j < KG.length
    · rw [List.getElem?_append_left c] at hj'
      have := I.kg j a hj'
      omega
    · rw [List.getElem?_append_right (by omega)] at hj'
      have hj0 : j - KG.length = 0 := by
        cases e : j - KG.length with
        | zero => rfl
        | succ n => rw [e] at hj'; cases hj'
      rw [hj0] at hj'
      have : p' = a := Option.some.inj hj'
      omega
  · intro e he
    have := d4 e he
    have q1 : p' < e.1 := this.1
    exact ⟨q1, by show e.1 < p' + P.r; have := this.2.1; omega, this.2.2.1, this.2.2.2⟩
theorem Inv.tell (I : Inv P M KF KG) (Y : Pk P) {j : Nat} {a : Int} (hj : KG[j]? = some a) (hr : (KG.length : Int) - 1 - P.b ≤ j) : Inv P (M.tell P (a.fmod P.g)) KF KG := by
  obtain ⟨bw, br, bm, bb⟩ := Y.b
  have g1 := Y.g1
  have g2 := Y.g2
  have hg : 0 < P.g := by omega
  have h1 := I.bp
  have h2 := I.pt
  have h3 := I.tb
  have h4 := I.pl
  obtain ⟨a0, a1, a2⟩ := I.kg j a hj
  have hb : M.base ≤ hrd P.g M.base M.top (a.fmod P.g) ∧ hrd P.g M.base M.top (a.fmod P.g) ≤ M.place := by
    unfold hrd
    rw [pW hg]
    have s0 := bB (a := a - M.base) hg
    by_cases c : M.base + (a - M.base).fmod P.g ≤ M.top
    · rw [if_pos c]
      have e := mi (d := a - M.base) hg (by omega) (by omega)
      omega
    · rw [if_neg c]; omega
  have h0 := I.b0
  exact ⟨by show 0 ≤ hrd P.g M.base M.top (a.fmod P.g); omega, hb.2, h2, by show M.top ≤ hrd P.g M.base M.top (a.fmod P.g) + P.w; omega, I.tn, I.pl, I.own, I.F, I.kf, I.G, I.kg, I.er, I.nd⟩
theorem Inv.new (Y : Pk P) : Inv P ⟨0, 0, 0, [], [], [], []⟩ [] [] := by
  have := Y.b.1
  exact ⟨Int.le_refl _, Int.le_refl _, Int.le_refl _, by show (0 : Int) ≤ 0 + P.w; omega, Int.natCast_nonneg _, rfl, rfl, rfl, (fun _ _ h => nomatch h), rfl, (fun _ _ h => nomatch h), (fun _ h => nomatch h), List.nodup_nil⟩
end Ap.L08
end
section
namespace Ap.L08
open PySem
variable {d : Nat} {σ σ' : St} {Q : PQ} {E : PE}
variable {A : RA} {P : Pm} {M : Mo}
theorem xm {t o e : Nat} {r g p : Int} (ht : σ t = some (Tk r g p o e)) (h : Q (.int p) σ) : wpF prg (d + 1) 18 [.obj t] σ Q E := by
  refine aY (fi := yi) rfl rfl ?_
  simp only [yi, List.map_cons, List.map_nil, Nat.reduceSub, List.replicate_zero, List.cons_append, List.nil_append, w18, ae, bz, bJ, aN, bF, aq ht (f := 8) (v := .int p) rfl, aJ, aA, aI]
  exact h
theorem eg (R : Rn A P M σ) (h : Q (.tup [.int M.base, .int M.top, .int M.place]) σ) : wpF prg (d + 2) 26 [.obj A.u] σ Q E := by
  refine aY (fi := ym) rfl rfl ?_
  simp only [ym, List.map_cons, List.map_nil, Nat.reduceSub, List.replicate_succ, List.replicate_zero, List.cons_append, List.nil_append, w26, ae, qY, bg, bJ, aN, bF, aq R.u (f := 13) (v := .obj A.s) rfl, aZ R.s (m := 20) rfl, am, aC]
  refine tV R.s ?_
  simp only [qm (xs := [_, _]) (is := [_, _]) rfl, ix, sU, nU, iq, ai, ae, bz, cX, an, bG, ak, cI, bg, bJ, aN, bF, aq R.u (f := 14) (v := .obj A.k) rfl, aZ R.k (m := 25) rfl, am, aC]
  refine xm R.k ?_
  simp only [ak, am, al, cn, aJ, aA, aI]
  exact h
noncomputable def yh (v : AV) : Prop := ∃ b x, v = .tup [.int b, x]
noncomputable def ltr (F : List AV) (v : AV) : AV := match v with
  | .int n => (match F[n.toNat]? with | some (.tup [b, x]) => .tup [.int n, b, x] | _ => .none)
  | _ => .none
noncomputable def ltrs (m : Int) (F : List AV) : List AV := (bW (cz m F) F.length).map (ltr F)
theorem eU (R : Rn A P M σ) (hm : 0 ≤ P.m) (hF : M.F.length ≤ 1000) (hL : ∀ v ∈ M.F, yh v) (h : ∀ c, σ c = Option.none → Q (.obj c) (upd σ c (.list (ltrs P.m M.F)))) : wpF prg (d + 3) 27 [.obj A.u] σ Q E := by
  refine aY (fi := xw) rfl rfl ?_
  simp only [xw, List.map_cons, List.map_nil, Nat.reduceSub, List.replicate_succ, List.replicate_zero, List.cons_append, List.nil_append, w27, ae, aW, eW, am, nr, bQ, sU, ai, sW, dy, bg, bJ, aN, bF]
  intro c hc
  have R1 := R.fresh (x := .list []) hc
  simp only [aq R1.u (f := 15) (v := .obj A.f) rfl, aZ R1.f (m := 21) rfl, am, aC]
  refine qA hm hF R1.f R1.ft ?_
  have f := fB (b := P.m) (L := M.F) hm
  rw [sX, pz]
  refine ku (fun i ρ σ' => σ' = upd σ c (.list (((bW (cz P.m M.F) M.F.length).take i).map (ltr M.F))) ∧ ∃ x2 x3 x4, ρ = [some (.obj A.u), some (.obj c), x2, x3, x4]) _ 0 ?_ ?_ _ _ ⟨rfl, _, _, _, rfl⟩
  · rintro i y hy ρ σ₁ R' ⟨rfl, x2, x3, x4, rfl⟩ hR
    refine ⟨trivial, ?_⟩
    have hy' := hy
    obtain ⟨i1, rfl⟩ := oE hy
    have R2 := R.fresh (x := .list (((bW (cz P.m M.F) M.F.length).take (0 + i)).map (ltr M.F))) hc
    have hi : (cz P.m M.F + (i : Int)).toNat < M.F.length := by omega
    obtain ⟨b, x, hx⟩ := hL _ (List.getElem_mem hi)
    have hx' : M.F[(cz P.m M.F + (i : Int)).toNat]? = some (.tup [.int b, x]) := by rw [List.getElem?_eq_getElem hi, hx]
    have uc := aj σ c (.list (((bW (cz P.m M.F) M.F.length).take (0 + i)).map (ltr M.F)))
    have ll : (((bW (cz P.m M.F) M.F.length).take (0 + i)).map (ltr M.F)).length ≤ 1000000 := by rw [List.length_map, List.length_take, gA]; omega
    simp only [mz, nU, ae, qY, bg, bJ, aN, bF, aq R2.u (f := 15) (v := .obj A.f) rfl, aZ R2.f (m := 24) rfl, an, cI, ak, am, al, aC]
    refine iU hm R2.f R2.ft ⟨by omega, by omega⟩ hx' ?_
    simp only [qm (xs := [_, _]) (is := [_, _]) rfl, ix, qi, ri, iq, ai, ae, cP, uQ, bG, nk (rc := rcL) (v := .obj c) ⟨_, _, rfl, uc⟩, an, cX, cI, ak, dO, fG, am, al, cn, lA, iL uc ll, pE, da, aS]
    refine hR _ _ ⟨?_, _, _, _, rfl⟩
    have e1 : (bW (cz P.m M.F) M.F.length).take (0 + i + 1) = (bW (cz P.m M.F) M.F.length).take (0 + i) ++ [.int (cz P.m M.F + (i : Int))] := by
      rw [Nat.zero_add, List.take_add_one, hy']; rfl
    rw [e1, List.map_append, List.map_cons, List.map_nil]
    have e2 : ltr M.F (.int (cz P.m M.F + (i : Int))) = .tup [.int (cz P.m M.F + (i : Int)), .int b, x] := by unfold ltr; simp only [hx']
    rw [e2]
  · rintro ρ σ₁ ⟨rfl, x2, x3, x4, rfl⟩
    refine ⟨trivial, ?_⟩
    simp only [ai, ae, bz, bG, aJ, aA, aI]
    rw [Nat.zero_add, List.take_length]
    exact h c hc
noncomputable def ansr (G : List AV) (v : AV) : AV := match v with
  | .int n => .tup [.int n, (G[n.toNat]?).getD .none]
  | _ => .none
noncomputable def ansrs (b : Int) (G : List AV) : List AV := (bW (cz b G) G.length).map (ansr G)
theorem As {a b : Option AV} : dA [0] [a, b] = [a, Option.none] := rfl
theorem eP (R : Rn A P M σ) (hm : 0 ≤ P.b) (hG : M.G.length ≤ 1000) (h : ∀ c, σ c = Option.none → Q (.obj c) (upd σ c (.list (ansrs P.b M.G)))) : wpF prg (d + 3) 28 [.obj A.u] σ Q E := by
  refine aY (fi := yf) rfl rfl ?_
  simp only [yf, List.map_cons, List.map_nil, Nat.reduceSub, List.replicate_succ, List.replicate_zero, List.cons_append, List.nil_append, w28, ae, bz]
  rw [dN]
  refine ⟨rfl, ?_⟩
  rw [As]
  simp only [dy, bg, bJ, aN, bF, aq R.u (f := 16) (v := .obj A.bk) rfl, aZ R.bk (m := 21) rfl, am, aC]
  refine qA hm hG R.bk R.bt ?_
  have f := fB (b := P.b) (L := M.G) hm
  simp only [sX, dh]
  refine dr (ansr M.G) trivial _ _ (fun x hx R' hR => ?_) ?_
  · obtain ⟨n, rfl, n0, n1⟩ := dm hx
    have hi : n.toNat < M.G.length := by omega
    simp only [em, sU, cX, an, bG, ak, bg, bJ, aN, bF, aq R.u (f := 16) (v := .obj A.bk) rfl, aZ R.bk (m := 24) rfl, am, al, aC]
    refine iU hm R.bk R.bt ⟨n0, n1⟩ (List.getElem?_eq_getElem hi) ?_
    simp only [ak, am, al, cn]
    have e : ansr M.G (.int n) = .tup [.int n, M.G[n.toNat]] := by
      show AV.tup [.int n, (M.G[n.toNat]?).getD .none] = _
      rw [List.getElem?_eq_getElem hi]; rfl
    rw [e] at hR
    exact hR
  · rw [List.nil_append]
    simp only [qV, aJ, aA, aI]
    intro c hc
    exact h c hc
structure Cnt (M : Mo) (c : Nat) : Prop where
  F : M.F.length ≤ c
  G : M.G.length ≤ c
  o : M.own.length + M.early.length ≤ c
theorem Cnt.more {c c' : Nat} (N : Cnt M c) (h : c ≤ c') : Cnt M c' := ⟨Nat.le_trans N.F h, Nat.le_trans N.G h, Nat.le_trans N.o h⟩
theorem tO {L : List AV} {v : AV} {c : Nat} (h : L.length ≤ c) : (L ++ [v]).length ≤ c + 1 := by rw [List.length_append]; exact Nat.add_le_add_right h 1
theorem Cnt.send {c : Nat} {k : Int} {x : AV} (N : Cnt M c) : Cnt (M.send P k x) (c + 1) := ⟨tO N.F, Nat.le_succ_of_le N.G, Nat.le_succ_of_le N.o⟩
theorem Cnt.hand {c : Nat} {k : Int} {x : AV} (N : Cnt M c) : Cnt (M.hand P k x) (c + 1) :=
  ⟨Nat.le_succ_of_le N.F, tO N.G, Nat.le_trans (oF (cD P.r P.g k M.place x M.early).length M.place (cD P.r P.g k M.place x M.early) M.own) (Nat.le_trans (Nat.add_le_add_left (lE P.r P.g k M.place x M.early) _) (Nat.add_le_add_right N.o 1))⟩
theorem Cnt.tell {c : Nat} {a : Int} (N : Cnt M c) : Cnt (M.tell P a) (c + 1) := ⟨Nat.le_succ_of_le N.F, Nat.le_succ_of_le N.G, Nat.le_succ_of_le N.o⟩
variable {KF KG : List Int}
theorem cl5 : clss[5]? = some ⟨Option.none, [], [5, 0]⟩ := rfl
theorem cl6 : clss[6]? = some ⟨Option.none, [], [6, 0]⟩ := rfl
theorem k55 : ([5, 0].contains 5) = true := rfl
theorem k65 : ([6, 0].contains 5) = false := rfl
theorem k66 : ([6, 0].contains 6) = true := rfl
theorem ul {n : Int} {m : Nat} {lo : Int} (h : lo ≤ n ∧ n ≤ (m : Int) - 1) (h0 : 0 ≤ n) : n < m ∧ n.toNat < m ∧ ((n.toNat : Nat) : Int) = n := by omega
theorem pj {b n : Int} {L : List AV} {m : Nat} (h : cz b L ≤ n) (hm : L.length = m) : (m : Int) - 1 - b ≤ n := by
  unfold cz at h
  rw [hm] at h
  split at h <;> omega
noncomputable abbrev refd (w : Str) : AV := .tup [.str (Str.ofString "refused"), .str w]
noncomputable abbrev told (v : AV) : AV := .tup [.str (Str.ofString "told"), v]
inductive Rs (P : Pm) (M : Mo) (KF KG : List Int) : Str → Int → AV → Mo → List Int → List Int → Prop
  | sendN {n : Int} : amongB (.int n) M.base (di P.w P.ts.length M.base M.top) = false → Rs P M KF KG (Str.ofString "send") n (refd (Str.ofString "now")) M KF KG
  | sendY {n : Int} {x : AV} : amongB (.int n) M.base (di P.w P.ts.length M.base M.top) = true → P.ts[n.toNat]? = some x → Rs P M KF KG (Str.ofString "send") n (told (.int KF.length)) (M.send P n x) (KF ++ [n]) KG
  | handN {n : Int} : amongB (.int n) (cz P.m M.F) (M.F.length - 1) = false → Rs P M KF KG (Str.ofString "hand") n (refd (Str.ofString "letter")) M KF KG
  | handY {n k : Int} : amongB (.int n) (cz P.m M.F) (M.F.length - 1) = true → KF[n.toNat]? = some k → Rs P M KF KG (Str.ofString "hand") n (told (.int KG.length)) (M.hand P (k.fmod P.g) (tx P k)) KF (KG ++ [(M.came P (k.fmod P.g) (tx P k)).1])
  | tellN {n : Int} : amongB (.int n) (cz P.b M.G) (M.G.length - 1) = false → Rs P M KF KG (Str.ofString "tell") n (refd (Str.ofString "letter")) M KF KG
  | tellY {n a : Int} : amongB (.int n) (cz P.b M.G) (M.G.length - 1) = true → KG[n.toNat]? = some a → Rs P M KF KG (Str.ofString "tell") n (told (.int (M.tell P (a.fmod P.g)).base)) (M.tell P (a.fmod P.g)) KF KG
theorem tN (X : Ds A) (Y : Pk P) (R : Rn A P M σ) (I : Inv P M KF KG) {c : Nat} (N : Cnt M c) (hc : c ≤ 800) {w : Str} {n : Int} (hw : w ∈ Ws) (hn : 0 ≤ n ∧ n ≤ 999999)
    (h : ∀ r M' KF' KG' σ', Rs P M KF KG w n r M' KF' KG' → Rn A P M' σ' → Inv P M' KF' KG' → Cnt M' (c + 1) → (∀ x, x ∉ A.mut → σ' x = σ x) → Q r σ') : wpF prg (d + 5) 36 [.obj A.u, .tup [.str w, .int n]] σ Q E := by
  have gn : P.g ≠ 0 := by have := Y.b.1; have := Y.b.2.1; have := Y.b.2.2.1; have := Y.g1; omega
  have no : ∀ r, Rs P M KF KG w n r M KF KG → Q r σ := fun r q => h r M KF KG σ q R I (N.more (Nat.le_succ c)) fun _ _ => rfl
  have hk1 : M.F.length = KF.length := by rw [I.F, List.length_map]
  have hk2 : M.G.length = KG.length := by rw [I.G, List.length_map]
  refine aY (fi := xd) rfl rfl ?_
  simp only [xd, List.map_cons, List.map_nil, Nat.reduceSub, List.replicate_zero, List.cons_append, List.nil_append, w36, ae, Bk, bz, cX, an, e_c, ak, bg, aN, aZ R.u (m := 26) rfl, bG, am, al, aC]
  unfold Ws at hw
  simp only [List.mem_cons, List.not_mem_nil, or_false] at hw
  rcases hw with rfl | rfl | rfl
  · cases q : amongB (.int n) M.base (di P.w P.ts.length M.base M.top) with
    | false =>
      refine wR R hn q ?_
      simp only [Am, sp, mB cl5, k55, oX, ae, bz, cX, an, e_c, ak, am, al, cn, aJ, aA, aI]
      exact no _ (.sendN q)
    | true =>
      have hl := (last_le.mp (dJ q).2).2.2
      have hl' : n.toNat < P.ts.length := by omega
      refine wo X R hn gn (Nat.le_trans N.F (Nat.le_trans hc (by decide))) q (List.getElem?_eq_getElem hl') fun σ' R' k' => ?_
      simp only [hk1, ak, am, al, cn, aJ, aA, aI]
      exact h _ _ _ _ _ (.sendY q (List.getElem?_eq_getElem hl')) R' (I.send Y q (List.getElem?_eq_getElem hl')) N.send k'
  · cases q : amongB (.int n) (cz P.m M.F) (M.F.length - 1) with
    | false =>
      refine xq R hn q ?_
      simp only [Am, sp, mB cl6, k65, tK, k66, oX, ae, bz, cX, an, e_c, ak, am, al, cn, aJ, aA, aI]
      exact no _ (.handN q)
    | true =>
      have ha := dJ q
      obtain ⟨h1, h2, h3⟩ := ul ha hn.1
      obtain ⟨kk, hkk⟩ : ∃ kk, KF[n.toNat]? = some kk := ⟨_, List.getElem?_eq_getElem (by rw [← hk1]; exact h2)⟩
      have hx : M.F[n.toNat]? = some (.tup [.int (kk.fmod P.g), tx P kk]) := by
        rw [I.F, List.getElem?_map, hkk]; rfl
      refine vy X R hn gn Y.b.2.2.1.1 (Nat.le_trans N.G (Nat.le_trans hc (by decide))) (Nat.le_trans N.o (Nat.le_trans hc (by decide))) ⟨ha.1, h1⟩ hx fun σ' R' k' => ?_
      simp only [hk2, ak, am, al, cn, aJ, aA, aI]
      exact h _ _ _ _ _ (.handY q hkk) R' (I.hand Y hkk (by rw [h3]; exact pj ha.1 hk1)) N.hand k'
  · cases q : amongB (.int n) (cz P.b M.G) (M.G.length - 1) with
    | false =>
      refine ya R hn q ?_
      simp only [Am, sp, mB cl6, k65, tK, k66, oX, ae, bz, cX, an, e_c, ak, am, al, cn, aJ, aA, aI]
      exact no _ (.tellN q)
    | true =>
      have ha := dJ q
      obtain ⟨h1, h2, h3⟩ := ul ha hn.1
      obtain ⟨kk, hkk⟩ : ∃ kk, KG[n.toNat]? = some kk := ⟨_, List.getElem?_eq_getElem (by rw [← hk2]; exact h2)⟩
      have hx : M.G[n.toNat]? = some (.int (kk.fmod P.g)) := by
        rw [I.G, List.getElem?_map, hkk]; rfl
      refine wF R hn gn Y.b.2.2.2.1 ⟨ha.1, h1⟩ hx fun σ' R' k' => ?_
      simp only [ak, am, al, cn, aJ, aA, aI]
      exact h _ _ _ _ _ (.tellY q hkk) R' (I.tell Y hkk (by rw [h3]; exact pj ha.1 hk2)) N.tell k'
structure Same (M N : Mo) : Prop where
  base : M.base = N.base
  top : M.top = N.top
  place : M.place = N.place
  own : M.own = N.own
  early : M.early = N.early
structure Two (P R : Pm) : Prop where
  w : P.w = R.w
  r : P.r = R.r
  m : P.m = R.m
  b : P.b = R.b
  ts : P.ts = R.ts
noncomputable def BC (r k p : Int) (x : AV) (D : List (Int × AV)) : List (Int × AV) := if p ≤ k ∧ k < p + r then (if il D k then D else cb k x D) else D
theorem mH (I : Inv P M KF KG) (Y : Pk P) {i : Nat} {k : Int} (hi : KF[i]? = some k) (hr : (KF.length : Int) - 1 - P.m ≤ i) (x : AV) : cD P.r P.g (k.fmod P.g) M.place x M.early = BC P.r k M.place x M.early := by
  obtain ⟨bw, br, bm, bb⟩ := Y.b
  have g1 := Y.g1
  have hg : 0 < P.g := by omega
  have h1 := I.bp
  have h2 := I.pt
  have h3 := I.tb
  obtain ⟨k0, k1, k2⟩ := I.kf i k hi
  unfold cD BC
  rw [pW hg]
  have s0 := bB (a := k - M.place) hg
  by_cases c : (k - M.place).fmod P.g < P.r
  · have e := mi (d := k - M.place) hg (by omega) (by omega)
    rw [if_pos c, if_pos (show M.place ≤ k ∧ k < M.place + P.r by omega), e, show M.place + (k - M.place) = k by omega]
  · rw [if_neg c]
    by_cases c2 : M.place ≤ k ∧ k < M.place + P.r
    · have e : (k - M.place).fmod P.g = k - M.place := by rw [Int.fmod_eq_emod_of_nonneg _ (by omega)]; exact Int.emod_eq_of_lt (by omega) (by omega)
      exact absurd c (by rw [e]; omega)
    · rw [if_neg c2]
theorem qJ (I : Inv P M KF KG) (Y : Pk P) {j : Nat} {a : Int} (hj : KG[j]? = some a) (hr : (KG.length : Int) - 1 - P.b ≤ j) : hrd P.g M.base M.top (a.fmod P.g) = if M.base ≤ a then a else M.base := by
  obtain ⟨bw, br, bm, bb⟩ := Y.b
  have g2 := Y.g2
  have hg : 0 < P.g := by omega
  have h1 := I.bp
  have h2 := I.pt
  have h3 := I.tb
  have h4 := I.pl
  obtain ⟨a0, a1, a2⟩ := I.kg j a hj
  unfold hrd
  rw [pW hg]
  have s0 := bB (a := a - M.base) hg
  by_cases c2 : M.base ≤ a
  · have e : (a - M.base).fmod P.g = a - M.base := by rw [Int.fmod_eq_emod_of_nonneg _ (by omega)]; exact Int.emod_eq_of_lt (by omega) (by omega)
    rw [if_pos c2, e, if_pos (by omega)]; omega
  · rw [if_neg c2]
    by_cases c : M.base + (a - M.base).fmod P.g ≤ M.top
    · have e := mi (d := a - M.base) hg (by omega) (by omega)
      omega
    · rw [if_neg c]
theorem jY {b : Int} {L L' : List AV} (h : L.length = L'.length) : cz b L = cz b L' := by unfold cz; rw [h]
theorem Rs.same {P' : Pm} {M' N N' : Mo} {KF1 KG1 KF2 KG2 : List Int} {w : Str} {n : Int} {r s : AV} (T : Two P P') (Y : Pk P) (Y' : Pk P') (I : Inv P M KF KG) (J : Inv P' N KF KG) (S : Same M N) (hn : 0 ≤ n) (x : Rs P M KF KG w n r M' KF1 KG1) (y : Rs P' N KF KG w n s N' KF2 KG2) : r = s ∧ KF1 = KF2 ∧ KG1 = KG2 ∧ Same M' N' := by
  have lF : M.F.length = N.F.length := by rw [I.F, J.F, List.length_map, List.length_map]
  have lG : M.G.length = N.G.length := by rw [I.G, J.G, List.length_map, List.length_map]
  have kF : M.F.length = KF.length := by rw [I.F, List.length_map]
  have kG : M.G.length = KG.length := by rw [I.G, List.length_map]
  have e1 : amongB (.int n) M.base (di P.w P.ts.length M.base M.top) = amongB (.int n) N.base (di P'.w P'.ts.length N.base N.top) := by rw [S.base, S.top, T.w, T.ts]
  have e2 : amongB (.int n) (cz P.m M.F) (M.F.length - 1) = amongB (.int n) (cz P'.m N.F) (N.F.length - 1) := by rw [jY lF, lF, T.m]
  have e3 : amongB (.int n) (cz P.b M.G) (M.G.length - 1) = amongB (.int n) (cz P'.b N.G) (N.G.length - 1) := by rw [jY lG, lG, T.b]
  have et : ∀ k, tx P k = tx P' k := fun k => by unfold tx; rw [T.ts]
  have q1 : (Str.ofString "send" == Str.ofString "hand") = false := by decide +kernel
  cases x with
  | sendN a =>
    generalize hw : Str.ofString "send" = w at y
    cases y with
    | sendN b => exact ⟨rfl, rfl, rfl, S⟩
    | sendY b _ => rw [e1, b] at a; cases a
    | _ => exact absurd hw (by decide +kernel)
  | sendY a hx =>
    generalize hw : Str.ofString "send" = w at y
    cases y with
    | sendN b => rw [e1, b] at a; cases a
    | sendY b hy =>
      rw [T.ts, hy] at hx
      cases hx
      exact ⟨rfl, rfl, rfl, ⟨S.base, by show (if n = M.top then n + 1 else M.top) = (if n = N.top then n + 1 else N.top); rw [S.top], S.place, S.own, S.early⟩⟩
    | _ => exact absurd hw (by decide +kernel)
  | handN a =>
    generalize hw : Str.ofString "hand" = w at y
    cases y with
    | handN b => exact ⟨rfl, rfl, rfl, S⟩
    | handY b _ => rw [e2, b] at a; cases a
    | _ => exact absurd hw (by decide +kernel)
  | @handY n k a hx =>
    generalize hw : Str.ofString "hand" = w at y
    cases y with
    | handN b => rw [e2, b] at a; cases a
    | handY b hy =>
      rw [hy] at hx
      cases hx
      obtain ⟨h1, h2, h3⟩ := ul (dJ a) hn
      have f1 := pj (dJ a).1 kF
      have p1 := mH I Y hy (by rw [h3]; exact f1) (tx P k)
      have p2 := mH J Y' hy (by rw [h3, ← T.m]; exact f1) (tx P' k)
      have ec : M.came P (k.fmod P.g) (tx P k) = N.came P' (k.fmod P'.g) (tx P' k) := by
        unfold Mo.came
        rw [p1, p2, et k, T.r, S.place, S.early, S.own]
      exact ⟨rfl, rfl, by rw [ec], ⟨S.base, S.top, by show (M.came P (k.fmod P.g) (tx P k)).1 = (N.came P' (k.fmod P'.g) (tx P' k)).1; rw [ec], by show (M.came P (k.fmod P.g) (tx P k)).2.2 = (N.came P' (k.fmod P'.g) (tx P' k)).2.2; rw [ec], by show (M.came P (k.fmod P.g) (tx P k)).2.1 = (N.came P' (k.fmod P'.g) (tx P' k)).2.1; rw [ec]⟩⟩
    | _ => exact absurd hw (by decide +kernel)
  | tellN a =>
    generalize hw : Str.ofString "tell" = w at y
    cases y with
    | tellN b => exact ⟨rfl, rfl, rfl, S⟩
    | tellY b _ => rw [e3, b] at a; cases a
    | _ => exact absurd hw (by decide +kernel)
  | @tellY n k a hx =>
    generalize hw : Str.ofString "tell" = w at y
    cases y with
    | tellN b => rw [e3, b] at a; cases a
    | tellY b hy =>
      rw [hy] at hx
      cases hx
      obtain ⟨h1, h2, h3⟩ := ul (dJ a) hn
      have f1 := pj (dJ a).1 kG
      have p1 := qJ I Y hy (by rw [h3]; exact f1)
      have p2 := qJ J Y' hy (by rw [h3, ← T.b]; exact f1)
      have eb : (M.tell P (k.fmod P.g)).base = (N.tell P' (k.fmod P'.g)).base := by
        show hrd P.g M.base M.top (k.fmod P.g) = hrd P'.g N.base N.top (k.fmod P'.g)
        rw [p1, p2, S.base]
      exact ⟨by rw [eb], rfl, rfl, ⟨eb, S.top, S.place, S.own, S.early⟩⟩
    | _ => exact absurd hw (by decide +kernel)
end Ap.L08
end
section
namespace Ap.L08
open PySem
variable {d : Nat} {σ σ' : St} {Q : PQ} {E : PE}
variable {A : RA} {P : Pm} {M : Mo} {KF KG : List Int}
noncomputable def Rw (v : AV) : Prop := ∃ n : Int, ∃ xs, v = .tup (.int n :: xs) ∧ (0 ≤ n ∧ n ≤ 1000) ∧ ∀ σ : St, ∃ p, rd 7 σ v = some p
theorem S40.str {v : AV} (h : S40 v) : ∃ s, v = .str s := by obtain ⟨s, rfl, _⟩ := h; exact ⟨s, rfl⟩
theorem CH (a : Int) : a.fmod 4 = 0 ∨ a.fmod 4 = 1 ∨ a.fmod 4 = 2 ∨ a.fmod 4 = 3 := by
  have h0 := bB (a := a) (b := 4) (by decide)
  have h1 := bU (a := a) (b := 4) (by decide)
  omega
theorem dr4 {x : Int} (h0 : 0 ≤ x) (h1 : x < 8) (h : ¬ x < 3) : x.fdiv 6 = 0 ∨ x.fdiv 6 = 1 := by
  have : x = 3 ∨ x = 4 ∨ x = 5 ∨ x = 6 ∨ x = 7 := by omega
  rcases this with rfl | rfl | rfl | rfl | rfl
  · exact .inl rfl
  · exact .inl rfl
  · exact .inl rfl
  · exact .inr rfl
  · exact .inr rfl
theorem yb {L : List AV} (h : ∀ v ∈ L, Rw v) : ∃ ps, jc (rd 7 σ) L = some ps ∧ ps.length = L.length := by
  induction L with
  | nil => exact ⟨[], rfl, rfl⟩
  | cons v L ih =>
    obtain ⟨_, _, _, _, hp⟩ := h v List.mem_cons_self
    obtain ⟨p, hp⟩ := hp σ
    obtain ⟨ps, h1, h2⟩ := ih fun y hy => h y (List.mem_cons_of_mem _ hy)
    exact ⟨p :: ps, by rw [jc, hp, h1]; rfl, by rw [List.length_cons, List.length_cons, h2]⟩
theorem yX {n : Nat} {a : Nat} {xs : List AV} (ha : σ a = some (.list xs)) : rd (n + 1) σ (.obj a) = (jc (rd n σ) xs).map PyData.list := by
  show ((match σ a with | some (.list xs) => some xs | _ => Option.none).bind fun xs => (jc (rd n σ) xs).map PyData.list) = _
  rw [ha]; rfl
theorem Al {a : Nat} {L : List AV} {K : Bool → Prop} (ha : σ a = some (.list L)) (h : ∀ v ∈ L, Rw v) : cEq (.obj a) (.ilist []) σ K = K (L.isEmpty) := by
  obtain ⟨ps, h1, h2⟩ := yb (σ := σ) h
  rw [xO (p := .list ps) (q := .list []) (by rw [yX ha, h1]; rfl) rfl]
  cases L with
  | nil =>
    have : ps = [] := List.length_eq_zero_iff.mp h2
    rw [this]; rfl
  | cons v L =>
    cases ps with
    | nil => cases h2
    | cons p ps => simp [PyData.eqv, PyData.eqvAll]
theorem vK (I : Inv P M KF KG) (ht : ∀ x ∈ P.ts, S40 x) : ∀ v ∈ M.F, ∃ b s, v = .tup [.int b, .str s] := fun v hv => by
  rw [I.F] at hv
  obtain ⟨k, hk, rfl⟩ := List.mem_map.mp hv
  obtain ⟨i, hi⟩ := List.getElem?_of_mem hk
  obtain ⟨k0, k1, _⟩ := I.kf i k hi
  have hl : k.toNat < P.ts.length := by have := I.tn; omega
  obtain ⟨s, hs⟩ := (ht _ (List.getElem_mem hl)).str
  exact ⟨_, s, by unfold tx; rw [List.getElem?_eq_getElem hl, hs]; rfl⟩
theorem rx1 {f n : Int} {i : Int} (hf : 0 ≤ f) (h0 : f ≤ i) (h1 : i < n) (hn : n ≤ 800) : 0 ≤ i ∧ i ≤ 1000 := by omega
theorem rx2 {i : Int} {n : Nat} (h0 : 0 ≤ i) (h1 : i < n) : i.toNat < n := by omega
theorem yd {m : Int} (hm : 0 ≤ m) (hF : M.F.length ≤ 800) (h2 : ∀ v ∈ M.F, ∃ b s, v = .tup [.int b, .str s]) : ∀ v ∈ ltrs m M.F, Rw v := fun v hv => by
  obtain ⟨y, hy, rfl⟩ := List.mem_map.mp hv
  obtain ⟨i, rfl, i0, i1⟩ := dm hy
  have f := (fB (b := m) (L := M.F) hm).1
  have hi := rx2 (Int.le_trans f i0) i1
  obtain ⟨b, s, hx⟩ := h2 _ (List.getElem_mem hi)
  have hx' : M.F[i.toNat]? = some (.tup [.int b, .str s]) := by rw [List.getElem?_eq_getElem hi, hx]
  have e : ltr M.F (.int i) = .tup [.int i, .int b, .str s] := by unfold ltr; simp only [hx']
  rw [e]
  exact ⟨_, _, rfl, rx1 f i0 i1 (Int.ofNat_le.mpr hF), fun σ => ⟨_, rfl⟩⟩
theorem vv {m : Int} (hm : 0 ≤ m) (hG : M.G.length ≤ 800) (h2 : ∀ v ∈ M.G, ∃ a, v = .int a) : ∀ v ∈ ansrs m M.G, Rw v := fun v hv => by
  obtain ⟨y, hy, rfl⟩ := List.mem_map.mp hv
  obtain ⟨i, rfl, i0, i1⟩ := dm hy
  have f := (fB (b := m) (L := M.G) hm).1
  have hi := rx2 (Int.le_trans f i0) i1
  obtain ⟨a, hx⟩ := h2 _ (List.getElem_mem hi)
  have e : ansr M.G (.int i) = .tup [.int i, .int a] := by
    show AV.tup [.int i, (M.G[i.toNat]?).getD .none] = _
    rw [List.getElem?_eq_getElem hi, hx]; rfl
  rw [e]
  exact ⟨_, _, rfl, rx1 f i0 i1 (Int.ofNat_le.mpr hG), fun σ => ⟨_, rfl⟩⟩
theorem dr5 {n z : Int} (h0 : 0 ≤ n) (h1 : n ≤ 1000) (hz : 0 ≤ z) : 0 ≤ (if n - z > 0 then n - z else 0) ∧ (if n - z > 0 then n - z else 0) ≤ 999999 := by
  split <;> omega
theorem dr6 {z : Bool} : 0 ≤ (if z = true then (1 : Int) else 0) := by cases z <;> decide
theorem dr7 {b x w : Int} (hb : b ≤ 400) (h : x < w) (hw : w ≤ 20) : b + x ≤ 999999 := by omega
noncomputable def sT : WS := (ad (bP (bK (aa 7) (aM cEq (ee false ao) bH)) (ad (bI (dj (ac (vC (.str (Str.ofString "hand"))) (ac (vO2 bv (aa 6) (vC (.int 3))) ao)))) ap) ap) (ad (bI (dj (ac (vO2 gY (ee false (ac (vC (.str (Str.ofString "hand"))) (ac (vC (.str (Str.ofString "tell"))) ao))) (vO2 bE (vO2 bv (aa 2) (vC (.int 8))) (vC (.int 6)))) (ac (vON mJ (ac (vC (.int 0)) (ac (vO2 iX (vO2 aV (vO2 cH (aa 7) (vO2 bv (vO2 bE (aa 6) (vC (.int 4))) (vON kz (ac (aa 7) ao)))) (vC (.int 0))) (vON oM (ac (bK (vO2 bv (aa 6) (vC (.int 9))) (aM cEq (vC (.int 1)) bH)) ao))) ao))) ao)))) ap))
theorem yZ {o0 o1 o3 o4 o5 : Option AV} {c mo : Int} {a : Nat} {L : List AV} (ha : σ a = some (.list L)) (hL : ∀ v ∈ L, Rw v) (hk : (c.fmod 8).fdiv 6 = 0 ∨ (c.fmod 8).fdiv 6 = 1) (h : ∀ w n, w ∈ Ws → 0 ≤ n → n ≤ 999999 → Q (.tup [.str w, .int n]) σ) : sT [o0, o1, some (.int c), o3, o4, o5, some (.int mo), some (.obj a)] σ (kFn Q) (eFn E) := by
  unfold sT
  simp only [ae, bD, bC, iY, aP, aD, eW, am, fx, aO, Al ha hL, bL, ar, aK]
  cases hL0 : L with
  | nil =>
    simp only [List.isEmpty_nil, co, ae, bz, cX, an, e_c, ak, aU, gZ, aw, az, bN, ne_eq, Int.reduceEq, not_false_eq_true, am, al, cn, aJ, aA, aI, true_and]
    exact h _ _ wH (bB (by decide)) (Int.le_trans (Int.le_of_lt (bU (b := 3) (by decide))) (by decide))
  | cons v L' =>
    have hE : L.isEmpty = false := by rw [hL0]; rfl
    rw [← hL0]
    have lp : 0 < (L.length : Int) := by rw [hL0, List.length_cons]; omega
    have ln : (L.length : Int) ≠ 0 := by omega
    have q0 := bB (a := mo.fdiv 4) lp
    have hx := rx2 q0 (bU (a := mo.fdiv 4) lp)
    obtain ⟨n, xs, e, ⟨n0, n1⟩, _⟩ := hL _ (List.getElem_mem hx)
    have hx' : L[((mo.fdiv 4).fmod (L.length : Int)).toNat]? = some (.tup (.int n :: xs)) := by rw [List.getElem?_eq_getElem hx, e]
    have m := dr5 n0 n1 (dr6 (z := (mo.fmod 9 == 1)))
    rcases hk with q | q
    · simp only [hE, aR, aS, ai, ae, bz, cX, an, aU, eW, e_c, ak, am, al, fx, aw, cI, az, bN, ne_eq, Int.reduceEq, not_false_eq_true, bT, Int.reduceAbs, Nat.reduceLT, and_true, q, i_l, Int.le_refl, Int.toNat_zero, List.getElem?_cons_zero, aB, dF, iY, gZ, dH, jx ha, ln, dM ha, q0, hx', bA, bC, aP, aD, aO, gR, bL, ar, sZ, iy, pc, cn, aJ, aA, aI, true_and]
      exact h _ _ wH m.1 m.2
    · simp only [hE, aR, aS, ai, ae, bz, cX, an, aU, eW, e_c, ak, am, al, fx, aw, cI, az, bN, ne_eq, Int.reduceEq, not_false_eq_true, bT, Int.reduceAbs, Nat.reduceLT, and_true, q, i_l, Int.reduceLE, Int.toNat_one, List.getElem?_cons_succ, List.getElem?_cons_zero, aB, dF, iY, gZ, dH, jx ha, ln, dM ha, q0, hx', bA, Int.le_refl, Int.toNat_zero, bC, aP, aD, aO, gR, bL, ar, sZ, iy, pc, cn, aJ, aA, aI, true_and]
      exact h _ _ wT m.1 m.2
theorem wz (Y : Pk P) (R : Rn A P M σ) (I : Inv P M KF KG) (N : Cnt M 800) (hts : P.ts.length ≤ 400) (ht : ∀ x ∈ P.ts, S40 x) {c : Int}
    (h : ∀ w n σ', w ∈ Ws → 0 ≤ n → n ≤ 999999 → (∀ x, σ x ≠ Option.none → σ' x = σ x) → Q (.tup [.str w, .int n]) σ') : wpF prg (d + 4) 37 [.obj A.u, .tup [.int P.w, .int P.r, .int P.m, .int P.b], .int c] σ Q E := by
  have b0 := I.b0
  have t1 : M.top ≤ 400 := Int.le_trans I.tn (Int.ofNat_le.mpr hts)
  have b1 : M.base ≤ 400 := Int.le_trans I.bp (Int.le_trans I.pt t1)
  have t0 : 0 ≤ M.top := Int.le_trans b0 (Int.le_trans I.bp I.pt)
  have wn : P.w ≠ 0 := so0 Y.b.1.1
  refine aY (fi := yk) rfl rfl ?_
  simp -implicitDefEqProofs only [yk, List.map_cons, List.map_nil, Nat.reduceSub, List.replicate_succ, List.replicate_zero, List.cons_append, List.nil_append, w37, ae, qY, bg, aN, aZ R.u (m := 17) rfl, am, aC]
  refine eg R ?_
  simp -implicitDefEqProofs only [qm (xs := [_, _, _]) (is := [_, _, _]) rfl, ix, qi, ri, qK, iq, ai, ae, aW, aU, cI, aw, e_c, az, bT, ne_eq, Int.reduceEq, not_false_eq_true, Int.reduceAbs, Nat.reduceLT, and_true, bQ, xr, bD, bC, bN, aP, aD, aO, zK, bL, ar, aK, true_and]
  by_cases hk : c.fmod 8 < 3
  · have w0 := bB (a := (c.fdiv 8).fdiv 4) (so1 Y.b.1.1)
    have w1 := bU (a := (c.fdiv 8).fdiv 4) (so1 Y.b.1.1)
    have v0 := bB (a := (c.fdiv 8).fdiv 4) (b := 2) (by decide)
    have v1 := bU (a := (c.fdiv 8).fdiv 4) (b := 2) (by decide)
    have go : ∀ k : Int, 0 ≤ k → k ≤ 999999 → Q (.tup [.str (Str.ofString "send"), .int k]) σ := fun k h0 h1 => h _ _ σ wS h0 h1 fun _ _ => rfl
    simp -implicitDefEqProofs only [decide_eq_true hk, co, ae, bz, cX, an, e_c, ak, aU, eW, fG, dO, aw, gZ, az, bT, ne_eq, Int.reduceEq, not_false_eq_true, Int.reduceAbs, Nat.reduceLT, and_true, bG, bA, Int.le_refl, Int.toNat_zero, List.getElem?_cons_zero, aB, bN, wn, dq, am, al, fx, i_l, true_and]
    refine ⟨bB (by decide), ?_⟩
    rcases CH (c.fdiv 8) with e | e | e | e <;> rw [e] <;> simp -implicitDefEqProofs only [Int.toNat_zero, List.getElem?_cons_zero, aB, ak, am, al, cn, aJ, aA, aI, Int.toNat_one, List.getElem?_cons_succ, Int.reduceToNat]
    · exact go _ t0 (Int.le_trans t1 (by decide))
    · exact go _ b0 (Int.le_trans b1 (by decide))
    · exact go _ (Int.add_nonneg b0 w0) (dr7 b1 w1 Y.b.1.2)
    · exact go _ (Int.add_nonneg t0 v0) (dr7 t1 v1 (by decide))
  · have e := dr4 (bB (a := c) (b := 8) (by decide)) (bU (a := c) (b := 8) (by decide)) hk
    simp -implicitDefEqProofs only [decide_eq_false hk, aR, aS, ai]
    refine (?_ : ad (au 7 (vO2 gY (ee false (ac (bd (wpF prg (d + 3)) 10 27 27 (aa 0) ao) (ac (bd (wpF prg (d + 3)) 10 28 28 (aa 0) ao) ao))) (vO2 bE (vO2 bv (aa 2) (vC (.int 8))) (vC (.int 6))))) sT _ _ _ _)
    simp -implicitDefEqProofs only [ae, aW, aU, eW, an, bg, aN, aZ R.u (m := 27) rfl, am, aC]
    have i2 := vK I ht
    refine eU R Y.b.2.2.1.1 (Nat.le_trans N.F (by decide)) (fun v hv => by obtain ⟨b, s, e⟩ := i2 v hv; exact ⟨b, _, e⟩) fun c1 hc1 => ?_
    have R1 := R.fresh (x := .list (ltrs P.m M.F)) hc1
    simp -implicitDefEqProofs only [ak, an, bg, aN, aZ R1.u (m := 28) rfl, am, aC]
    refine eP R1 Y.b.2.2.2.1 (Nat.le_trans N.G (by decide)) fun c2 hc2 => ?_
    have ia : ∀ v ∈ M.G, ∃ a, v = .int a := fun v hv => by
      rw [I.G] at hv
      obtain ⟨a, _, rfl⟩ := List.mem_map.mp hv
      exact ⟨_, rfl⟩
    have f1 := keep (x := .list (ansrs P.b M.G)) (aj σ c1 (.list (ltrs P.m M.F))) hc2
    have f2 := aj (upd σ c1 (.list (ltrs P.m M.F))) c2 (.list (ansrs P.b M.G))
    have kk : ∀ x, σ x ≠ Option.none → upd (upd σ c1 (.list (ltrs P.m M.F))) c2 (.list (ansrs P.b M.G)) x = σ x := fun x hx => by
      have x1 : x ≠ c1 := fun q => hx (q ▸ hc1)
      have e1 : upd σ c1 (.list (ltrs P.m M.F)) x = σ x := ag _ _ x1
      have x2 : x ≠ c2 := fun q => hx (by rw [← e1, q]; exact hc2)
      rw [ag _ _ x2, e1]
    rcases id e with q | q
    · simp -implicitDefEqProofs only [ak, am, al, fx, aw, aU, cI, e_c, az, bN, ne_eq, Int.reduceEq, not_false_eq_true, bT, Int.reduceAbs, Nat.reduceLT, and_true, q, i_l, Int.le_refl, Int.toNat_zero, List.getElem?_cons_zero, aB, bQ, uq, ai, true_and]
      exact yZ f1 (yd Y.b.2.2.1.1 N.F i2) e fun w n hw n0 n1 => h w n _ hw n0 n1 kk
    · simp -implicitDefEqProofs only [ak, am, al, fx, aw, aU, cI, e_c, az, bN, ne_eq, Int.reduceEq, not_false_eq_true, bT, Int.reduceAbs, Nat.reduceLT, and_true, q, i_l, Int.reduceLE, Int.toNat_one, List.getElem?_cons_succ, List.getElem?_cons_zero, aB, bQ, uq, ai, true_and]
      exact yZ f2 (vv Y.b.2.2.2.1 N.G ia) e fun w n hw n0 n1 => h w n _ hw n0 n1 kk
structure Nr (A : RA) (P : Pm) (σ : St) (so ko fo bo : AObj) : Prop where
  u : σ A.u = some (Ru A P)
  s : σ A.s = some so
  k : σ A.k = some ko
  f : σ A.f = some fo
  bk : σ A.bk = some bo
structure Nd (A : RA) : Prop where
  us : A.u ≠ A.s
  uk : A.u ≠ A.k
  uf : A.u ≠ A.f
  ub : A.u ≠ A.bk
  sk : A.s ≠ A.k
  sf : A.s ≠ A.f
  sb : A.s ≠ A.bk
  kf : A.k ≠ A.f
  kb : A.k ≠ A.bk
  fb : A.f ≠ A.bk
theorem BD (X : Ds A) (R : Rn A P M σ) : Nd A where
  us := aE R.u R.s (by intro h; cases h)
  uk := aE R.u R.k (by intro h; cases h)
  uf := aE R.u R.f (by intro h; cases h)
  ub := aE R.u R.bk (by intro h; cases h)
  sk := aE R.s R.k (by intro h; cases h)
  sf := aE R.s R.f (by intro h; cases h)
  sb := aE R.s R.bk (by intro h; cases h)
  kf := aE R.k R.f (by intro h; cases h)
  kb := aE R.k R.bk (by intro h; cases h)
  fb := aE R.f R.bk (by intro h; injection h with _ h; simp only [List.cons.injEq, Prod.mk.injEq, AV.obj.injEq, and_true, true_and] at h; exact X.d3 h.2)
section
variable {so ko fo bo x : AObj}
theorem Nr.fresh (n : Nr A P σ so ko fo bo) {c : Nat} (hc : σ c = Option.none) : Nr A P (upd σ c x) so ko fo bo := ⟨keep n.u hc, keep n.s hc, keep n.k hc, keep n.f hc, keep n.bk hc⟩
theorem Nr.setS (D : Nd A) (n : Nr A P σ so ko fo bo) : Nr A P (upd σ A.s x) x ko fo bo := ⟨(ag _ _ D.us).trans n.u, aj _ _ _, (ag _ _ (Ne.symm D.sk)).trans n.k, (ag _ _ (Ne.symm D.sf)).trans n.f, (ag _ _ (Ne.symm D.sb)).trans n.bk⟩
theorem Nr.setK (D : Nd A) (n : Nr A P σ so ko fo bo) : Nr A P (upd σ A.k x) so x fo bo := ⟨(ag _ _ D.uk).trans n.u, (ag _ _ D.sk).trans n.s, aj _ _ _, (ag _ _ (Ne.symm D.kf)).trans n.f, (ag _ _ (Ne.symm D.kb)).trans n.bk⟩
theorem Nr.setF (D : Nd A) (n : Nr A P σ so ko fo bo) : Nr A P (upd σ A.f x) so ko x bo := ⟨(ag _ _ D.uf).trans n.u, (ag _ _ D.sf).trans n.s, (ag _ _ D.kf).trans n.k, aj _ _ _, (ag _ _ (Ne.symm D.fb)).trans n.bk⟩
theorem Nr.setB (D : Nd A) (n : Nr A P σ so ko fo bo) : Nr A P (upd σ A.bk x) so ko fo x := ⟨(ag _ _ D.ub).trans n.u, (ag _ _ D.sb).trans n.s, (ag _ _ D.kb).trans n.k, (ag _ _ D.fb).trans n.f, aj _ _ _⟩
end
end Ap.L08
end
section
namespace Ap.L08
open PySem
variable {d : Nat} {σ σ' : St} {Q : PQ} {E : PE}
variable {A : RA} {P : Pm} {M : Mo} {KF KG : List Int}
theorem cw {σ0 : St} {a : Nat} {x : AObj} (fr : ∀ c, σ0 c ≠ Option.none → σ c = σ0 c) (ha : σ0 a = Option.none) : ∀ c, σ0 c ≠ Option.none → upd σ a x c = σ0 c := fun c hc => by
  have e : c ≠ a := fun q => hc (by rw [q]; exact ha)
  rw [ag _ _ e]; exact fr c hc
theorem dD {σ0 : St} {c : Nat} (fr : ∀ c, σ0 c ≠ Option.none → σ c = σ0 c) (h : σ c = Option.none) : σ0 c = Option.none := by
  cases e : σ0 c with
  | none => rfl
  | some o => rw [fr c (by rw [e]; intro q; cases q), e] at h; cases h
theorem nw {a c : Nat} {x : AObj} (hc : upd σ a x c = Option.none) : c ≠ a ∧ σ c = Option.none := by
  have h : c ≠ a := fun q => by rw [q, aj] at hc; cases hc
  exact ⟨h, by rw [ag _ _ h] at hc; exact hc⟩
theorem pk8 {r g p v : AV} {o e : Nat} : cb 8 v [(7, r), (3, g), (8, p), (9, .obj o), (10, .obj e)] = [(7, r), (3, g), (8, v), (9, .obj o), (10, .obj e)] := rfl
theorem pk9 {r g p v : AV} {o e : Nat} : cb 9 v [(7, r), (3, g), (8, p), (9, .obj o), (10, .obj e)] = [(7, r), (3, g), (8, p), (9, v), (10, .obj e)] := rfl
theorem CF {r g p v : AV} {o e : Nat} : cb 10 v [(7, r), (3, g), (8, p), (9, .obj o), (10, .obj e)] = [(7, r), (3, g), (8, p), (9, .obj o), (10, v)] := rfl
theorem pp1 {b v : AV} {t : Nat} : cb 1 v [(0, b), (1, .obj t)] = [(0, b), (1, v)] := rfl
theorem uP (Y : Pk P) (hg : P.g ≤ 200) (hts : P.ts.length ≤ 400) (ht : ∀ x ∈ P.ts, S40 x) (R : Rn A P M σ) (N : Cnt M 800)
    (h : ∀ (A' : RA) σ', Ds A' → Rn A' P M σ' → (∀ x, σ x ≠ Option.none → σ' x = σ x) → (∀ x ∈ A'.mut, σ x = Option.none) → Q (.obj A'.u) σ') : wpF prg (d + 5) 30 [.obj A.u] σ Q E := by
  have gg : 1 ≤ P.g ∧ P.g ≤ 200 := ⟨by have := Y.b.1; have := Y.b.2.1; have := Y.b.2.2.1; have := Y.g1; omega, hg⟩
  refine aY (fi := wY) rfl rfl ?_
  simp only [wY, List.map_cons, List.map_nil, Nat.reduceSub, List.replicate_succ, List.replicate_zero, List.cons_append, List.nil_append, w30, ae, aW, ou, an, bJ, aN, bF, aq R.u (f := 11) (v := .tup [.int P.w, .int P.r, .int P.m, .int P.b]) rfl, ak, aq R.u (f := 3) (v := .int P.g) rfl, aq R.u (f := 12) (v := .ilist P.ts) rfl, am, al, lj]
  intro u hu
  refine qN (P := P) (aj _ _ _) Y.b gg (v := .ilist P.ts) rfl hts ht fun A0 σ1 Au X0 R0 k1 f1 => ?_
  subst Au
  have fr0 : ∀ c, σ c ≠ Option.none → upd σ A0.u (.inst 10 []) c = σ c := fun c hc => ag _ _ fun q => hc (q ▸ hu)
  have fr1 : ∀ c, σ c ≠ Option.none → σ1 c = σ c := fun c hc => (k1 c (fun q => hc (q ▸ hu)) (by rw [fr0 c hc]; exact hc)).trans (fr0 c hc)
  have fz : ∀ c ∈ A0.f :: A0.bk :: A0.mut, σ c = Option.none := fun c hc => (nw (f1 c hc)).2
  have zf := fz A0.f List.mem_cons_self
  have zb := fz A0.bk (List.mem_cons_of_mem _ List.mem_cons_self)
  have zs := fz A0.s (List.mem_cons_of_mem _ (List.mem_cons_of_mem _ tD))
  have zk := fz A0.k (List.mem_cons_of_mem _ (List.mem_cons_of_mem _ wJ))
  have D := BD X0 R0
  have n1 : Nr A0 P σ1 _ _ _ _ := ⟨R0.u, R0.s, R0.k, R0.f, R0.bk⟩
  clear R0 X0 k1 f1 fz fr0
  have Ra := R.same fr1
  simp only [iT, bQ, sU, ai, ae, bf, bJ, aN, bF, aq Ra.u (f := 13) (v := .obj A.s) rfl, aq Ra.s sl3, cf, bG, aq n1.u (f := 13) (v := .obj A0.s) rfl, bV n1.s (f := 5) (by decide : (5 : Nat) < 100), sp3]
  have n2 := n1.setS (x := S P.w P.g P.ts.length M.base 0) D
  have fr2 := cw (x := S P.w P.g P.ts.length M.base 0) fr1 zs
  generalize upd σ1 A0.s (S P.w P.g P.ts.length M.base 0) = σ2 at n2 fr2 ⊢
  have Rb := R.same fr2
  simp only [aq Rb.u (f := 13) (v := .obj A.s) rfl, bF, aq Rb.s sl4, cf, bJ, bG, aq n2.u (f := 13) (v := .obj A0.s) rfl, bV n2.s (f := 6) (by decide : (5 : Nat) < 100), sp4, ai, ae, bf, aN]
  have n3 := n2.setS (x := S P.w P.g P.ts.length M.base M.top) D
  have fr3 := cw (x := S P.w P.g P.ts.length M.base M.top) fr2 zs
  generalize upd σ2 A0.s (S P.w P.g P.ts.length M.base M.top) = σ3 at n3 fr3 ⊢
  have Rc := R.same fr3
  simp only [aq Rc.u (f := 14) (v := .obj A.k) rfl, bF, aq Rc.k (f := 8) (v := .int M.place) rfl, cf, bJ, bG, aq n3.u (f := 14) (v := .obj A0.k) rfl, bV n3.k (f := 8) (by decide : (5 : Nat) < 100), pk8, ai, ae, bf, dF, an, aN]
  have n4 := n3.setK (x := Tk P.r P.g M.place A0.o A0.e) D
  have fr4 := cw (x := Tk P.r P.g M.place A0.o A0.e) fr3 zk
  generalize upd σ3 A0.k (Tk P.r P.g M.place A0.o A0.e) = σ4 at n4 fr4 ⊢
  have Rd := R.same fr4
  simp only [aq Rd.u (f := 14) (v := .obj A.k) rfl, bF, aq Rd.k (f := 9) (v := .obj A.o) rfl, ak, am, al, dH, ml Rd.o, rE, cf, bJ, bG]
  intro o' ho'
  have zo := dD fr4 ho'
  have n5 := n4.fresh (x := .list M.own) ho'
  have fr5 := cw (x := .list M.own) fr4 zo
  have o5 := aj σ4 o' (.list M.own)
  generalize upd σ4 o' (.list M.own) = σ5 at n5 fr5 o5 ⊢
  simp only [aq n5.u (f := 14) (v := .obj A0.k) rfl, bV n5.k (f := 9) (by decide : (5 : Nat) < 100), pk9, ai, ae, bf, dF, an, bJ, aN, bF]
  have n6 := n5.setK (x := Tk P.r P.g M.place o' A0.e) D
  have fr6 := cw (x := Tk P.r P.g M.place o' A0.e) fr5 zk
  have o6 := (ag σ5 (Tk P.r P.g M.place o' A0.e) (aE o5 n5.k (by intro h; cases h))).trans o5
  generalize upd σ5 A0.k (Tk P.r P.g M.place o' A0.e) = σ6 at n6 fr6 o6 ⊢
  have Re := R.same fr6
  simp only [aq Re.u (f := 14) (v := .obj A.k) rfl, bF, aq Re.k (f := 10) (v := .obj A.e) rfl, ak, am, al, dH, xJ Re.e (show M.early.length ≤ 1000000 by have := N.o; omega), cf, bJ, bG]
  intro e' he'
  have ze := dD fr6 he'
  have n7 := n6.fresh (x := .dictI M.early) he'
  have fr7 := cw (x := .dictI M.early) fr6 ze
  have o7 := keep (x := .dictI M.early) o6 he'
  have e7 := aj σ6 e' (.dictI M.early)
  generalize upd σ6 e' (.dictI M.early) = σ7 at n7 fr7 o7 e7 ⊢
  simp only [aq n7.u (f := 14) (v := .obj A0.k) rfl, bV n7.k (f := 10) (by decide : (5 : Nat) < 100), CF, ai, ae, bf, dF, an, bJ, aN, bF]
  have n8 := n7.setK (x := Tk P.r P.g M.place o' e') D
  have fr8 := cw (x := Tk P.r P.g M.place o' e') fr7 zk
  have o8 := (ag σ7 (Tk P.r P.g M.place o' e') (aE o7 n7.k (by intro h; cases h))).trans o7
  have e8 := (ag σ7 (Tk P.r P.g M.place o' e') (aE e7 n7.k (by intro h; cases h))).trans e7
  generalize upd σ7 A0.k (Tk P.r P.g M.place o' e') = σ8 at n8 fr8 o8 e8 ⊢
  have Rf := R.same fr8
  simp only [aq Rf.u (f := 15) (v := .obj A.f) rfl, bF, aq Rf.f pa1, ak, am, al, dH, ml Rf.ft, rE, cf, bJ, bG]
  intro ft' hft'
  have zft := dD fr8 hft'
  have n9 := n8.fresh (x := .list M.F) hft'
  have fr9 := cw (x := .list M.F) fr8 zft
  have o9 := keep (x := .list M.F) o8 hft'
  have e9 := keep (x := .list M.F) e8 hft'
  have t9 := aj σ8 ft' (.list M.F)
  have dof : o' ≠ ft' := cm o8 hft'
  generalize upd σ8 ft' (.list M.F) = σ9 at n9 fr9 o9 e9 t9 ⊢
  simp only [aq n9.u (f := 15) (v := .obj A0.f) rfl, bV n9.f (f := 1) (by decide : (2 : Nat) < 100), pp1, ai, ae, bf, dF, an, bJ, aN, bF]
  have n10 := n9.setF (x := Po P.m ft') D
  have fr10 := cw (x := Po P.m ft') fr9 zf
  have o10 := (ag σ9 (Po P.m ft') (aE o9 n9.f (by intro h; cases h))).trans o9
  have e10 := (ag σ9 (Po P.m ft') (aE e9 n9.f (by intro h; cases h))).trans e9
  have t10 := (ag σ9 (Po P.m ft') (aE t9 n9.f (by intro h; cases h))).trans t9
  generalize upd σ9 A0.f (Po P.m ft') = σ10 at n10 fr10 o10 e10 t10 ⊢
  have Rg := R.same fr10
  simp only [aq Rg.u (f := 16) (v := .obj A.bk) rfl, bF, aq Rg.bk pa1, ak, am, al, dH, ml Rg.bt, rE, cf, bJ, bG]
  intro bt' hbt'
  have zbt := dD fr10 hbt'
  have n11 := n10.fresh (x := .list M.G) hbt'
  have fr11 := cw (x := .list M.G) fr10 zbt
  have o11 := keep (x := .list M.G) o10 hbt'
  have e11 := keep (x := .list M.G) e10 hbt'
  have t11 := keep (x := .list M.G) t10 hbt'
  have b11 := aj σ10 bt' (.list M.G)
  have dob : o' ≠ bt' := cm o10 hbt'
  have dfb : ft' ≠ bt' := cm t10 hbt'
  generalize upd σ10 bt' (.list M.G) = σ11 at n11 fr11 o11 e11 t11 b11 ⊢
  simp only [aq n11.u (f := 16) (v := .obj A0.bk) rfl, bV n11.bk (f := 1) (by decide : (2 : Nat) < 100), pp1, ai, ae, bz, bG, aJ, aA, aI]
  have n12 := n11.setB (x := Po P.b bt') D
  have fr12 := cw (x := Po P.b bt') fr11 zb
  have w : ∀ {c : Nat} {o : AObj}, σ11 c = some o → o ≠ Po P.b A0.bt → upd σ11 A0.bk (Po P.b bt') c = some o := fun hc hne => (ag _ _ (aE hc n11.bk hne)).trans hc
  refine h ⟨A0.u, A0.s, A0.k, o', e', A0.f, ft', A0.bk, bt'⟩ _ ⟨dof, dob, dfb⟩ ⟨n12.u, n12.s, n12.k, w o11 (by intro h; cases h), w e11 (by intro h; cases h), n12.f, w t11 (by intro h; cases h), n12.bk, w b11 (by intro h; cases h)⟩ fr12 fun x hx => ?_
  unfold RA.mut at hx
  simp only [List.mem_cons, List.not_mem_nil, or_false] at hx
  rcases hx with rfl | rfl | rfl | rfl | rfl | rfl <;> assumption
end Ap.L08
end
section
namespace Ap.L08
open PySem
variable {d : Nat} {σ σ' : St} {Q : PQ} {E : PE}
variable {A : RA} {P : Pm} {M : Mo} {KF KG : List Int}
noncomputable def zB (F : Calls) : WS := (ad (bP (bK (cJ false (cZ (bd F 10 27 27 (aa 7) ao)) (tb1 9) [] (vO2 pP (aa 9) (vC (.int 2)))) (aM cNe (cJ false (cZ (bd F 10 27 27 (aa 7) ao)) (tb1 9) [2, 8] (dj (ac (vO2 aV (aa 9) (vC (.int 0))) (ac (vO2 bv (vO2 cH (aa 2) (vO2 aV (aa 9) (vC (.int 0)))) (aa 8)) ao)))) bH)) (ad (bI (vC (.bool false))) ap) ap) (ad (bP (bK (bd F 10 28 28 (aa 7) ao) (aM cNe (cJ false (cZ (bd F 10 28 28 (aa 7) ao)) (tb1 9) [3, 8] (dj (ac (vO2 aV (aa 9) (vC (.int 0))) (ac (vO2 bv (vO2 cH (aa 3) (vO2 aV (aa 9) (vC (.int 0)))) (aa 8)) ao)))) bH)) (ad (bI (vC (.bool false))) ap) ap) ap))
noncomputable def zT (F : Calls) : WS := (ad (bP (bK (cJ false (cZ (bd F 10 27 27 (aa 5) ao)) (tb1 9) [] (dj (ac (vO2 aV (aa 9) (vC (.int 0))) (ac (vO2 aV (aa 9) (vC (.int 2))) ao)))) (aM cNe (cJ false (cZ (bd F 10 27 27 (aa 6) ao)) (tb1 9) [] (dj (ac (vO2 aV (aa 9) (vC (.int 0))) (ac (vO2 aV (aa 9) (vC (.int 2))) ao)))) bH)) (ad (bI (vC (.bool false))) ap) ap) (ad (bP (bK (cJ false (cZ (bd F 10 28 28 (aa 5) ao)) (tb1 9) [] (vO2 aV (aa 9) (vC (.int 0)))) (aM cNe (cJ false (cZ (bd F 10 28 28 (aa 6) ao)) (tb1 9) [] (vO2 aV (aa 9) (vC (.int 0)))) bH)) (ad (bI (vC (.bool false))) ap) ap) (ad (bI (bK (bd F 10 17 26 (aa 5) ao) (aM cEq (bd F 10 17 26 (aa 6) ao) bH))) ap)))
noncomputable def zM (F : Calls) : WS := (ad (qe 7 8 (xI (ac (aa 0) (ac (aa 1) ao))) (zB F)) (zT F))
noncomputable def Self (n : Nat) (σ : St) (v : AV) : Prop := ∃ p, rd n σ v = some p ∧ PyData.eqv p p = true
theorem mZ {n : Nat} : ∀ {xs : List AV}, (∀ x ∈ xs, Self n σ x) → ∃ ps, jc (rd n σ) xs = some ps ∧ PyData.eqvAll ps ps = true := by
  intro xs
  induction xs with
  | nil => intro _; exact ⟨[], rfl, rfl⟩
  | cons x xs ih =>
    intro h
    obtain ⟨p, h1, h2⟩ := h x List.mem_cons_self
    obtain ⟨ps, h3, h4⟩ := ih fun y hy => h y (List.mem_cons_of_mem _ hy)
    refine ⟨p :: ps, by rw [jc, h1, h3]; rfl, ?_⟩
    rw [PyData.eqvAll, h2, h4]; rfl
theorem vu {n : Nat} {xs : List AV} (h : ∀ x ∈ xs, Self n σ x) : Self (n + 1) σ (.tup xs) := by
  obtain ⟨ps, h1, h2⟩ := mZ h
  refine ⟨.tuple ps, ?_, by rw [PyData.eqv]; exact h2⟩
  show (jc (rd n σ) xs).map PyData.tuple = _
  rw [h1]; rfl
theorem cr {n : Nat} {i : Int} : Self (n + 1) σ (.int i) := ⟨.int i, rfl, by simp [PyData.eqv]⟩
theorem cT {n : Nat} {s : Str} : Self (n + 1) σ (.str s) := ⟨.str s, rfl, by simp [PyData.eqv]⟩
theorem jW {n : Nat} {a b : AV} (ha : Self n σ a) (hb : Self n σ b) : Self (n + 1) σ (.tup [a, b]) := vu fun x hx => by
  simp only [List.mem_cons, List.not_mem_nil, or_false] at hx
  rcases hx with rfl | rfl <;> assumption
theorem zr {n : Nat} {a b c : AV} (ha : Self n σ a) (hb : Self n σ b) (hc : Self n σ c) : Self (n + 1) σ (.tup [a, b, c]) := vu fun x hx => by
  simp only [List.mem_cons, List.not_mem_nil, or_false] at hx
  rcases hx with rfl | rfl | rfl <;> assumption
theorem qw {xs ys : List AV} (e : ys = xs) (h : ∀ x ∈ xs, Self 7 σ x) {K : Bool → Prop} : cNe (.ilist xs) (.ilist ys) σ K = K false := by
  subst e
  obtain ⟨ps, h1, h2⟩ := mZ h
  have q : rd 8 σ (.ilist ys) = some (.list ps) := by show (jc (rd 7 σ) ys).map PyData.list = _; rw [h1]; rfl
  exact tI q q (by rw [PyData.eqv]; exact h2)
theorem Ci {a : Nat} {xs ys : List AV} (ha : σ a = some (.list xs)) (e : ys = xs) (h : ∀ x ∈ xs, Self 7 σ x) {K : Bool → Prop} : cNe (.obj a) (.ilist ys) σ K = K false := by
  subst e
  obtain ⟨ps, h1, h2⟩ := mZ h
  have q : rd 8 σ (.ilist ys) = some (.list ps) := by show (jc (rd 7 σ) ys).map PyData.list = _; rw [h1]; rfl
  exact tI (by rw [yX ha, h1]; rfl) q (by rw [PyData.eqv]; exact h2)
theorem zH {a b c : Int} {K : Bool → Prop} : cNe (.tup [.int a, .int b, .int c]) (.tup [.int a, .int b, .int c]) σ K = K false := by
  obtain ⟨p, h1, h2⟩ := zr (n := 7) (σ := σ) (cr (i := a)) (cr (i := b)) (cr (i := c))
  exact tI h1 h1 h2
theorem Af {a b c : Int} {K : Bool → Prop} : cEq (.tup [.int a, .int b, .int c]) (.tup [.int a, .int b, .int c]) σ K = K true := by
  obtain ⟨p, h1, h2⟩ := zr (n := 7) (σ := σ) (cr (i := a)) (cr (i := b)) (cr (i := c))
  exact Ck h1 h1 h2
noncomputable def rf1 (v : AV) : AV := match v with | .tup xs => .tup (xs.take 2) | _ => .none
noncomputable def rf2 (K : List Int) (g : Int) (v : AV) : AV := match v with | .tup (.int n :: _) => .tup [.int n, .int ((K.getD n.toNat 0).fmod g)] | _ => .none
noncomputable def rf4 (v : AV) : AV := match v with | .tup [a, _, c] => .tup [a, c] | _ => .none
noncomputable def rf5 (v : AV) : AV := match v with | .tup (a :: _) => a | _ => .none
theorem tg (I : Inv P M KF KG) (ht : ∀ x ∈ P.ts, S40 x) {i : Int} (i0 : 0 ≤ i) (i1 : i < M.F.length) : ∃ k s, ltr M.F (.int i) = .tup [.int i, .int (k.fmod P.g), .str s] ∧ KF[i.toNat]? = some k ∧ tx P k = .str s := by
  have hi := rx2 i0 i1
  have hk : M.F.length = KF.length := by rw [I.F, List.length_map]
  obtain ⟨k, hkk⟩ : ∃ k, KF[i.toNat]? = some k := ⟨_, List.getElem?_eq_getElem (by rw [← hk]; exact hi)⟩
  have hx : M.F[i.toNat]? = some (.tup [.int (k.fmod P.g), tx P k]) := by rw [I.F, List.getElem?_map, hkk]; rfl
  obtain ⟨b, s, e⟩ := vK I ht _ (List.mem_of_getElem? hx)
  have e2 : tx P k = .str s := by injection e with e; injection e with _ e; injection e
  refine ⟨k, s, ?_, hkk, e2⟩
  unfold ltr
  simp only [hx, e2]
theorem pY (I : Inv P M KF KG) {i : Int} (i0 : 0 ≤ i) (i1 : i < M.G.length) : ∃ a, ansr M.G (.int i) = .tup [.int i, .int (a.fmod P.g)] ∧ KG[i.toNat]? = some a := by
  have hi := rx2 i0 i1
  have hk : M.G.length = KG.length := by rw [I.G, List.length_map]
  obtain ⟨k, hkk⟩ : ∃ k, KG[i.toNat]? = some k := ⟨_, List.getElem?_eq_getElem (by rw [← hk]; exact hi)⟩
  have hx : M.G[i.toNat]? = some (.int (k.fmod P.g)) := by rw [I.G, List.getElem?_map, hkk]; rfl
  refine ⟨k, ?_, hkk⟩
  show AV.tup [.int i, (M.G[i.toNat]?).getD .none] = _
  rw [hx]; rfl
theorem kc (I : Inv P M KF KG) (Y : Pk P) (ht : ∀ x ∈ P.ts, S40 x) : ∀ v ∈ ltrs P.m M.F, ∃ i k s, v = .tup [.int i, .int (k.fmod P.g), .str s] ∧ 0 ≤ i ∧ KF[i.toNat]? = some k := fun v hv => by
  obtain ⟨y, hy, rfl⟩ := List.mem_map.mp hv
  obtain ⟨i, rfl, i0, i1⟩ := dm hy
  have f := (fB (b := P.m) (L := M.F) Y.b.2.2.1.1).1
  obtain ⟨k, s, e, hk, _⟩ := tg I ht (Int.le_trans f i0) i1
  exact ⟨i, k, s, e, Int.le_trans f i0, hk⟩
theorem iS (I : Inv P M KF KG) (Y : Pk P) : ∀ v ∈ ansrs P.b M.G, ∃ i a, v = .tup [.int i, .int (a.fmod P.g)] ∧ 0 ≤ i ∧ KG[i.toNat]? = some a := fun v hv => by
  obtain ⟨y, hy, rfl⟩ := List.mem_map.mp hv
  obtain ⟨i, rfl, i0, i1⟩ := dm hy
  have f := (fB (b := P.b) (L := M.G) Y.b.2.2.2.1).1
  obtain ⟨a, e, hk⟩ := pY I (Int.le_trans f i0) i1
  exact ⟨i, a, e, Int.le_trans f i0, hk⟩
theorem yn {xs : List AV} {f : AV → AV} (h : ∀ v ∈ xs, f v = v) : xs.map f = xs := (List.map_congr_left h).trans (List.map_id xs)
theorem km1 {a b c e f g h i j k : Option AV} : dA [] [a, b, c, e, f, g, h, i, j, k] = [Option.none, Option.none, Option.none, Option.none, Option.none, Option.none, Option.none, Option.none, Option.none, Option.none] := rfl
theorem km2 {a b c e f g h i j k : Option AV} : dA [2, 8] [a, b, c, e, f, g, h, i, j, k] = [Option.none, Option.none, c, Option.none, Option.none, Option.none, Option.none, Option.none, j, Option.none] := rfl
theorem km3 {a b c e f g h i j k : Option AV} : dA [3, 8] [a, b, c, e, f, g, h, i, j, k] = [Option.none, Option.none, Option.none, e, Option.none, Option.none, Option.none, Option.none, j, Option.none] := rfl
theorem mh {K : List Int} {i : Nat} {k : Int} (h : K[i]? = some k) : K.getD i 0 = k := by rw [List.getD_eq_getElem?_getD, h]; rfl
theorem vP {K : List Int} {i : Nat} {k : Int} (h : K[i]? = some k) : (K.map AV.int)[i]? = some (.int k) := by rw [List.getElem?_map, h]; rfl
theorem wb (Y : Pk P) (ht : ∀ x ∈ P.ts, S40 x) (R : Rn A P M σ) (I : Inv P M KF KG) (N : Cnt M 800) {ls lw : Nat} (hs : σ ls = some (.list (KF.map .int))) (hw : σ lw = some (.list (KG.map .int))) {o0 o1 o4 o5 o6 o7 o8 : Option AV} {EE : ES} {R' : QS}
    (h : ∀ σ', (∀ x, σ x ≠ Option.none → σ' x = σ x) → R' .next [o0, o1, some (.obj ls), some (.obj lw), o4, o5, o6, some (.obj A.u), some (.int P.g), Option.none] σ') :
    yK 7 8 (zB (wpF prg (d + 3))) EE (.tup [.obj A.u, .int P.g]) [o0, o1, some (.obj ls), some (.obj lw), o4, o5, o6, o7, o8, Option.none] σ R' := by
  have gn : P.g ≠ 0 := by have := Y.b.1; have := Y.b.2.1; have := Y.b.2.2.1; have := Y.g1; omega
  have i2 := vK I ht
  have hL : ∀ v ∈ M.F, yh v := fun v hv => by obtain ⟨b, s, e⟩ := i2 v hv; exact ⟨b, _, e⟩
  have rw1 := kc I Y ht
  have rw2 := iS I Y
  unfold zB
  simp only [Ao, uq, wC, ae, bD, bC]
  rw [dN]
  refine ⟨rfl, ?_⟩
  rw [km1]
  simp only [dy, bg, iY, aZ R.u (m := 27) rfl, am, aC]
  refine eU R Y.b.2.2.1.1 (Nat.le_trans N.F (by decide)) hL fun c1 hc1 => ?_
  have R1 := R.fresh (x := .list (ltrs P.m M.F)) hc1
  have fr1 : ∀ x, σ x ≠ Option.none → upd σ c1 (.list (ltrs P.m M.F)) x = σ x := cw (fun _ _ => rfl) hc1
  have u1 := aj σ c1 (.list (ltrs P.m M.F))
  generalize upd σ c1 (.list (ltrs P.m M.F)) = σ1 at R1 fr1 u1 ⊢
  simp only [iE u1, dh]
  refine dr rf1 u1 _ _ (fun x hx R hR => ?_) ?_
  · obtain ⟨i, k, s, rfl, i0, hk⟩ := rw1 x hx
    simp only [em, oP, aU, nW, aw, e_c, az, yB, Int.reduceLE, List.length_cons, List.length_nil, Nat.reduceAdd, true_and, Int.reduceToNat, List.take_succ_cons, List.take_zero]
    exact ⟨by decide, hR⟩
  rw [List.nil_append]
  simp only [de, aP, aD]
  rw [dN]
  refine ⟨rfl, ?_⟩
  rw [km2]
  simp only [dy, bg, iY, aZ R1.u (m := 27) rfl, am, aC]
  refine eU R1 Y.b.2.2.1.1 (Nat.le_trans N.F (by decide)) hL fun c2 hc2 => ?_
  have R2 := R1.fresh (x := .list (ltrs P.m M.F)) hc2
  have fr2 : ∀ x, σ x ≠ Option.none → upd σ1 c2 (.list (ltrs P.m M.F)) x = σ x := cw fr1 (dD fr1 hc2)
  have u2 := aj σ1 c2 (.list (ltrs P.m M.F))
  generalize upd σ1 c2 (.list (ltrs P.m M.F)) = σ2 at R2 fr2 u2 ⊢
  have hs2 := (fr2 ls (by rw [hs]; intro q; cases q)).trans hs
  have hw2 := (fr2 lw (by rw [hw]; intro q; cases q)).trans hw
  simp only [iE u2, dh]
  refine dr (rf2 KF P.g) u2 _ _ (fun x hx R hR => ?_) ?_
  · obtain ⟨i, k, s, rfl, i0, hk⟩ := rw1 x hx
    simp only [em, oP, cX, an, aU, nW, aw, e_c, az, bA, Int.le_refl, Int.toNat_zero, List.getElem?_cons_zero, aB, ak, cI, dM hs2, i0, vP hk, ni, bN, ne_eq, gn, not_false_eq_true, am, al, cn, true_and]
    have e : rf2 KF P.g (.tup [.int i, .int (k.fmod P.g), .str s]) = .tup [.int i, .int (k.fmod P.g)] := by unfold rf2; simp only [mh hk]
    rw [e] at hR
    exact hR
  rw [List.nil_append]
  have e12 : (ltrs P.m M.F).map (rf2 KF P.g) = (ltrs P.m M.F).map rf1 := List.map_congr_left fun v hv => by
    obtain ⟨i, k, s, rfl, i0, hk⟩ := rw1 v hv
    unfold rf2 rf1; simp only [mh hk]; rfl
  have sf1 : ∀ x ∈ (ltrs P.m M.F).map rf1, Self 7 σ2 x := fun x hx => by
    obtain ⟨v, hv, rfl⟩ := List.mem_map.mp hx
    obtain ⟨i, k, s, rfl, i0, hk⟩ := rw1 v hv
    exact jW cr cr
  simp only [de, aO, qw e12 sf1, bX, ar, aK, aR, aS, ai, ae, bD, bC, bg, iY, aZ R2.u (m := 28) rfl, am, aC]
  refine eP R2 Y.b.2.2.2.1 (Nat.le_trans N.G (by decide)) fun c3 hc3 => ?_
  have R3 := R2.fresh (x := .list (ansrs P.b M.G)) hc3
  have fr3 : ∀ x, σ x ≠ Option.none → upd σ2 c3 (.list (ansrs P.b M.G)) x = σ x := cw fr2 (dD fr2 hc3)
  have u3 := aj σ2 c3 (.list (ansrs P.b M.G))
  generalize upd σ2 c3 (.list (ansrs P.b M.G)) = σ3 at R3 fr3 u3 ⊢
  simp only [aP, aD]
  rw [dN]
  refine ⟨rfl, ?_⟩
  rw [km3]
  simp only [dy, bg, iY, aZ R3.u (m := 28) rfl, am, aC]
  refine eP R3 Y.b.2.2.2.1 (Nat.le_trans N.G (by decide)) fun c4 hc4 => ?_
  have fr4 : ∀ x, σ x ≠ Option.none → upd σ3 c4 (.list (ansrs P.b M.G)) x = σ x := cw fr3 (dD fr3 hc4)
  have u4 := aj σ3 c4 (.list (ansrs P.b M.G))
  have v4 := keep (x := .list (ansrs P.b M.G)) u3 hc4
  generalize upd σ3 c4 (.list (ansrs P.b M.G)) = σ4 at fr4 u4 v4 ⊢
  have hw4 := (fr4 lw (by rw [hw]; intro q; cases q)).trans hw
  simp only [iE u4, dh]
  refine dr (rf2 KG P.g) u4 _ _ (fun x hx R hR => ?_) ?_
  · obtain ⟨i, k, rfl, i0, hk⟩ := rw2 x hx
    simp only [em, oP, cX, an, aU, nW, aw, e_c, az, bA, Int.le_refl, Int.toNat_zero, List.getElem?_cons_zero, aB, ak, dO, dM hw4, i0, vP hk, ni, bN, ne_eq, gn, not_false_eq_true, am, al, cn, true_and]
    have e : rf2 KG P.g (.tup [.int i, .int (k.fmod P.g)]) = .tup [.int i, .int (k.fmod P.g)] := by unfold rf2; simp only [mh hk]
    rw [e] at hR
    exact hR
  rw [List.nil_append]
  have e3 : (ansrs P.b M.G).map (rf2 KG P.g) = ansrs P.b M.G := yn fun v hv => by
    obtain ⟨i, k, rfl, i0, hk⟩ := rw2 v hv
    unfold rf2; simp only [mh hk]
  have sf3 : ∀ x ∈ ansrs P.b M.G, Self 7 σ4 x := fun x hx => by
    obtain ⟨i, k, rfl, i0, hk⟩ := rw2 x hx
    exact jW cr cr
  simp only [de, aO, Ci v4 e3 sf3, bX, ar, aK, aR, aS, ai]
  exact h _ fr4
end Ap.L08
end
section
namespace Ap.L08
open PySem
variable {d : Nat} {σ σ' : St} {Q : PQ} {E : PE}
variable {A1 A2 : RA} {P1 P2 : Pm} {M1 M2 : Mo} {KF KG : List Int} {lr lg ls lw : Nat}
structure C2 (P1 P2 : Pm) : Prop where
  t : Two P1 P2
  y1 : Pk P1
  y2 : Pk P2
  g1 : P1.g ≤ 200
  g2 : P2.g ≤ 200
  l : P1.ts.length ≤ 400
  h1 : ∀ x ∈ P1.ts, S40 x
  h2 : ∀ x ∈ P2.ts, S40 x
structure W2 (A1 A2 : RA) (P1 P2 : Pm) (M1 M2 : Mo) (KF KG : List Int) (lr lg ls lw : Nat) (σ : St) : Prop where
  r1 : Rn A1 P1 M1 σ
  r2 : Rn A2 P2 M2 σ
  i1 : Inv P1 M1 KF KG
  i2 : Inv P2 M2 KF KG
  s : Same M1 M2
  lr : σ lr = some (.list [.obj A1.u, .obj A2.u])
  lg : σ lg = some (.list [.int P1.g, .int P2.g])
  ls : σ ls = some (.list (KF.map .int))
  lw : σ lw = some (.list (KG.map .int))
theorem cK {a : Nat} {o : AObj} (h : σ a = some o) : σ a ≠ Option.none := by rw [h]; intro q; cases q
theorem W2.same (W : W2 A1 A2 P1 P2 M1 M2 KF KG lr lg ls lw σ) (k : ∀ x, σ x ≠ Option.none → σ' x = σ x) : W2 A1 A2 P1 P2 M1 M2 KF KG lr lg ls lw σ' :=
  ⟨W.r1.same k, W.r2.same k, W.i1, W.i2, W.s, (k _ (cK W.lr)).trans W.lr, (k _ (cK W.lg)).trans W.lg, (k _ (cK W.ls)).trans W.ls, (k _ (cK W.lw)).trans W.lw⟩
theorem S40.self {v : AV} (h : S40 v) {n : Nat} : Self (n + 1) σ v := by obtain ⟨s, rfl, _⟩ := h; exact cT
theorem BJ (C : C2 P1 P2) (W : W2 A1 A2 P1 P2 M1 M2 KF KG lr lg ls lw σ) (N1 : Cnt M1 800) (N2 : Cnt M2 800) {o0 o1 o2 o3 o4 o7 o8 : Option AV}
    (h : ∀ σ', (∀ x, σ x ≠ Option.none → σ' x = σ x) → Q (.bool true) σ') : zT (wpF prg (d + 3)) [o0, o1, o2, o3, o4, some (.obj A1.u), some (.obj A2.u), o7, o8, Option.none] σ (kFn Q) (eFn E) := by
  have hL1 : ∀ v ∈ M1.F, yh v := fun v hv => by obtain ⟨b, s, e⟩ := vK W.i1 C.h1 v hv; exact ⟨b, _, e⟩
  have hL2 : ∀ v ∈ M2.F, yh v := fun v hv => by obtain ⟨b, s, e⟩ := vK W.i2 C.h2 v hv; exact ⟨b, _, e⟩
  have lF : M2.F.length = M1.F.length := by rw [W.i1.F, W.i2.F, List.length_map, List.length_map]
  have lG : M2.G.length = M1.G.length := by rw [W.i1.G, W.i2.G, List.length_map, List.length_map]
  have b1 := C.y1.b.2.2
  have b2 := C.y2.b.2.2
  have p0 := (fB (b := P1.m) (L := M1.F) b1.1.1).1
  have q0 := (fB (b := P1.b) (L := M1.G) b1.2.1).1
  have rF : bW (cz P2.m M2.F) M2.F.length = bW (cz P1.m M1.F) M1.F.length := by rw [jY lF, lF, C.t.m]
  have rG : bW (cz P2.b M2.G) M2.G.length = bW (cz P1.b M1.G) M1.G.length := by rw [jY lG, lG, C.t.b]
  have eF : (ltrs P2.m M2.F).map rf4 = (ltrs P1.m M1.F).map rf4 := by
    unfold ltrs
    rw [rF, List.map_map, List.map_map]
    refine List.map_congr_left fun v hv => ?_
    obtain ⟨i, rfl, i0, i1⟩ := dm hv
    obtain ⟨k, s, e, hk, ht⟩ := tg W.i1 C.h1 (Int.le_trans p0 i0) i1
    obtain ⟨k', s', e', hk', ht'⟩ := tg W.i2 C.h2 (Int.le_trans p0 i0) (by rw [lF]; exact i1)
    rw [hk] at hk'
    cases hk'
    have : tx P1 k = tx P2 k := by unfold tx; rw [C.t.ts]
    rw [ht, ht'] at this
    cases this
    show rf4 (ltr M2.F (.int i)) = rf4 (ltr M1.F (.int i))
    rw [e, e']; rfl
  have sF : ∀ σ : St, ∀ x ∈ (ltrs P1.m M1.F).map rf4, Self 7 σ x := fun σ x hx => by
    obtain ⟨v, hv, rfl⟩ := List.mem_map.mp hx
    obtain ⟨i, k, s, rfl, i0, hk⟩ := kc W.i1 C.y1 C.h1 v hv
    exact jW cr cT
  have eG : (ansrs P2.b M2.G).map rf5 = (ansrs P1.b M1.G).map rf5 := by
    unfold ansrs
    rw [rG, List.map_map, List.map_map]
    refine List.map_congr_left fun v hv => ?_
    obtain ⟨i, rfl, i0, i1⟩ := dm hv
    obtain ⟨k, e, hk⟩ := pY W.i1 (Int.le_trans q0 i0) i1
    obtain ⟨k', e', hk'⟩ := pY W.i2 (Int.le_trans q0 i0) (by rw [lG]; exact i1)
    show rf5 (ansr M2.G (.int i)) = rf5 (ansr M1.G (.int i))
    rw [e, e']; rfl
  have sG : ∀ σ : St, ∀ x ∈ (ansrs P1.b M1.G).map rf5, Self 7 σ x := fun σ x hx => by
    obtain ⟨v, hv, rfl⟩ := List.mem_map.mp hx
    obtain ⟨i, k, rfl, i0, hk⟩ := iS W.i1 C.y1 v hv
    exact cr
  unfold zT
  simp only [ae, bD, bC]
  rw [dN]
  refine ⟨rfl, ?_⟩
  rw [km1]
  simp only [dy, bg, kZ, aZ W.r1.u (m := 27) rfl, am, aC]
  refine eU W.r1 b1.1.1 (Nat.le_trans N1.F (by decide)) hL1 fun c1 hc1 => ?_
  have fr1 : ∀ x, σ x ≠ Option.none → upd σ c1 (.list (ltrs P1.m M1.F)) x = σ x := cw (fun _ _ => rfl) hc1
  have u1 := aj σ c1 (.list (ltrs P1.m M1.F))
  generalize upd σ c1 (.list (ltrs P1.m M1.F)) = σ1 at fr1 u1 ⊢
  have W1 := W.same fr1
  simp only [iE u1, dh]
  refine dr rf4 u1 _ _ (fun x hx R hR => ?_) ?_
  · obtain ⟨i, k, s, rfl, i0, hk⟩ := kc W.i1 C.y1 C.h1 x hx
    simp only [em, oP, cX, an, aU, nW, aw, e_c, az, bA, Int.le_refl, Int.toNat_zero, List.getElem?_cons_zero, aB, ak, Int.reduceLE, Int.reduceToNat, List.getElem?_cons_succ, am, al, cn, true_and]
    exact hR
  rw [List.nil_append]
  simp only [de, aP, aD]
  rw [dN]
  refine ⟨rfl, ?_⟩
  rw [km1]
  simp only [dy, bg, gZ, aZ W1.r2.u (m := 27) rfl, am, aC]
  refine eU W1.r2 b2.1.1 (Nat.le_trans N2.F (by decide)) hL2 fun c2 hc2 => ?_
  have fr2 : ∀ x, σ x ≠ Option.none → upd σ1 c2 (.list (ltrs P2.m M2.F)) x = σ x := cw fr1 (dD fr1 hc2)
  have u2 := aj σ1 c2 (.list (ltrs P2.m M2.F))
  generalize upd σ1 c2 (.list (ltrs P2.m M2.F)) = σ2 at fr2 u2 ⊢
  have W2 := W.same fr2
  simp only [iE u2, dh]
  refine dr rf4 u2 _ _ (fun x hx R hR => ?_) ?_
  · obtain ⟨i, k, s, rfl, i0, hk⟩ := kc W.i2 C.y2 C.h2 x hx
    simp only [em, oP, cX, an, aU, nW, aw, e_c, az, bA, Int.le_refl, Int.toNat_zero, List.getElem?_cons_zero, aB, ak, Int.reduceLE, Int.reduceToNat, List.getElem?_cons_succ, am, al, cn, true_and]
    exact hR
  rw [List.nil_append]
  simp only [de, aO, qw eF (sF σ2), bX, ar, aK, aR, aS, ai, ae, bD, bC]
  rw [dN]
  refine ⟨rfl, ?_⟩
  rw [km1]
  simp only [dy, bg, kZ, aZ W2.r1.u (m := 28) rfl, am, aC]
  refine eP W2.r1 b1.2.1 (Nat.le_trans N1.G (by decide)) fun c3 hc3 => ?_
  have fr3 : ∀ x, σ x ≠ Option.none → upd σ2 c3 (.list (ansrs P1.b M1.G)) x = σ x := cw fr2 (dD fr2 hc3)
  have u3 := aj σ2 c3 (.list (ansrs P1.b M1.G))
  generalize upd σ2 c3 (.list (ansrs P1.b M1.G)) = σ3 at fr3 u3 ⊢
  have W3 := W.same fr3
  simp only [iE u3, dh]
  refine dr rf5 u3 _ _ (fun x hx R hR => ?_) ?_
  · obtain ⟨i, k, rfl, i0, hk⟩ := iS W.i1 C.y1 x hx
    simp only [em, oP, aU, nW, aw, e_c, az, bA, Int.le_refl, Int.toNat_zero, List.getElem?_cons_zero, aB, true_and]
    exact hR
  rw [List.nil_append]
  simp only [de, aP, aD]
  rw [dN]
  refine ⟨rfl, ?_⟩
  rw [km1]
  simp only [dy, bg, gZ, aZ W3.r2.u (m := 28) rfl, am, aC]
  refine eP W3.r2 b2.2.1 (Nat.le_trans N2.G (by decide)) fun c4 hc4 => ?_
  have fr4 : ∀ x, σ x ≠ Option.none → upd σ3 c4 (.list (ansrs P2.b M2.G)) x = σ x := cw fr3 (dD fr3 hc4)
  have u4 := aj σ3 c4 (.list (ansrs P2.b M2.G))
  generalize upd σ3 c4 (.list (ansrs P2.b M2.G)) = σ4 at fr4 u4 ⊢
  have W4 := W.same fr4
  simp only [iE u4, dh]
  refine dr rf5 u4 _ _ (fun x hx R hR => ?_) ?_
  · obtain ⟨i, k, rfl, i0, hk⟩ := iS W.i2 C.y2 x hx
    simp only [em, oP, aU, nW, aw, e_c, az, bA, Int.le_refl, Int.toNat_zero, List.getElem?_cons_zero, aB, true_and]
    exact hR
  rw [List.nil_append]
  simp only [de, aO, qw eG (sG σ4), bX, ar, aK, aR, aS, ai, ae, bz, bC, bg, kZ, aZ W4.r1.u (m := 17) rfl, am, aC]
  refine eg W4.r1 ?_
  simp only [aP, aD, bg, gZ, aZ W4.r2.u (m := 17) rfl, am, aC]
  refine eg W4.r2 ?_
  rw [← W.s.base, ← W.s.top, ← W.s.place]
  simp only [aO, Af, dZ, iK, ar, aJ, aA, aI]
  exact h _ fr4
theorem zh (C : C2 P1 P2) (W : W2 A1 A2 P1 P2 M1 M2 KF KG lr lg ls lw σ) (N1 : Cnt M1 800) (N2 : Cnt M2 800) {o4 o7 o8 : Option AV}
    (h : ∀ σ', (∀ x, σ x ≠ Option.none → σ' x = σ x) → Q (.bool true) σ') : zM (wpF prg (d + 3)) [some (.obj lr), some (.obj lg), some (.obj ls), some (.obj lw), o4, some (.obj A1.u), some (.obj A2.u), o7, o8, Option.none] σ (kFn Q) (eFn E) := by
  unfold zM
  simp only [ae, yH, Aj, an, aN, ak, bG, am, al, Br W.lr W.lg, wj]
  rw [show pS [.obj A1.u, .obj A2.u] [.int P1.g, .int P2.g] = [.tup [.obj A1.u, .int P1.g], .tup [.obj A2.u, .int P2.g]] from rfl, wg]
  refine ⟨⟨W.lr, W.lg⟩, wb C.y1 C.h1 W.r1 W.i1 N1 W.ls W.lw fun σ1 k1 => ?_⟩
  have W1 := W.same k1
  rw [rT, wg]
  refine ⟨⟨W1.lr, W1.lg⟩, wb C.y2 C.h2 W1.r2 W1.i2 N2 W1.ls W1.lw fun σ2 k2 => ?_⟩
  have k3 : ∀ x, σ x ≠ Option.none → σ2 x = σ x := fun x hx => (k2 x (by rw [k1 x hx]; exact hx)).trans (k1 x hx)
  have W2 := W.same k3
  rw [rT, Bf]
  refine ⟨⟨W2.lr, W2.lg⟩, ?_⟩
  rw [ai]
  exact BJ C W2 N1 N2 fun σ' k' => h σ' fun x hx => (k' x (by rw [k3 x hx]; exact hx)).trans (k3 x hx)
theorem ky (C : C2 P1 P2) (W : W2 A1 A2 P1 P2 M1 M2 KF KG lr lg ls lw σ) (N1 : Cnt M1 800) (N2 : Cnt M2 800) {wy : Int}
    (h : ∀ σ', (∀ x, σ x ≠ Option.none → σ' x = σ x) → Q (.bool true) σ') : wpF prg (d + 4) 38 [.obj lr, .obj lg, .obj ls, .obj lw, .int wy] σ Q E := by
  have so : ∀ x ∈ M1.own, Self 7 σ x := fun x hx => by
    rw [W.i1.own] at hx
    exact (C.h1 x (List.mem_of_mem_take hx)).self
  refine aY (fi := fn38) rfl rfl ?_
  rw [show fn38.body (wpF prg (d + 3)) = (ad (tF [5, 6] (aa 0)) (ad (bP (bK (aa 4) (aM cEq (vC (.int 2)) bH)) (ad (bI (vC (.bool true))) ap) ap) (ad (bP (vBl (aX false (vBl (aX true (bK (aa 4) (aM cEq (vC (.int 0)) bH)) (aX true (bK (bd (wpF prg (d + 3)) 10 17 26 (aa 5) ao) (aM cNe (bd (wpF prg (d + 3)) 10 17 26 (aa 6) ao) bH)) (cU true)))) (aX false (bK (bd (wpF prg (d + 3)) 10 29 25 (aa 5) ao) (aM cNe (bd (wpF prg (d + 3)) 10 29 25 (aa 6) ao) bH)) (cU false)))) (ad (bI (vC (.bool false))) ap) ap) (zM (wpF prg (d + 3)))))) from rfl]
  simp only [List.map_cons, List.map_nil, fn38, Nat.reduceSub, List.replicate_succ, List.replicate_zero, List.cons_append, List.nil_append, ae, AP, aN, xU (is := [_, _]) W.lr rfl, ix, qK, xr, iq, ai, bD, bC, fG, aP, aD, e_c, aO, gR, bL, ar, aK]
  cases (wy == 2) with
  | true =>
    simp only [co, ae, bz, e_c, aJ, aA, aI]
    exact h _ fun _ _ => rfl
  | false =>
    simp only [aR, aS, ai, ae, bD, ja, bq, bC, fG, aP, aD, e_c, aO, gR, bL, ar, aK, cv, fJ]
    cases (wy == 0) with
    | true =>
      simp only [ce, bq, bC, bg, kZ, aZ W.r1.u (m := 17) rfl, am, aC]
      refine eg W.r1 ?_
      simp only [aP, aD, bg, gZ, aZ W.r2.u (m := 17) rfl, am, aC]
      refine eg W.r2 ?_
      rw [← W.s.base, ← W.s.top, ← W.s.place]
      simp only [aO, zH, bX, ar, aK, cv, fJ, cM, ma, iZ, ce, bq, bC, bg, kZ, aZ W.r1.u (m := 29) rfl, am, aC]
      refine pR W.r1 ?_
      simp only [aP, aD, bg, gZ, aZ W.r2.u (m := 29) rfl, am, aC]
      refine pR W.r2 ?_
      simp only [aO, qw W.s.own.symm so, bX, ar, aK, cv, ma, iZ, ce, eY, aR, aS, ai]
      exact zh C W N1 N2 h
    | false =>
      simp only [cM, ar, aK, cv, ma, iZ, ce, bq, bC, bg, kZ, aZ W.r1.u (m := 29) rfl, am, aC]
      refine pR W.r1 ?_
      simp only [aP, aD, bg, gZ, aZ W.r2.u (m := 29) rfl, am, aC]
      refine pR W.r2 ?_
      simp only [aO, qw W.s.own.symm so, bX, ar, aK, cv, ma, iZ, ce, eY, aR, aS, ai]
      exact zh C W N1 N2 h
end Ap.L08
end
section
namespace Ap.L08
open PySem
variable {d : Nat} {σ σ' : St} {Q : PQ} {E : PE}
variable {A A1 A2 : RA} {P P1 P2 : Pm} {M M1 M2 : Mo} {KF KG : List Int} {lr lg ls lw : Nat}
structure Dj (A1 A2 : RA) (lr lg ls lw : Nat) : Prop where
  d : ∀ c ∈ A2.mut, c ∉ A1.mut
  r1 : lr ∉ A1.mut
  g1 : lg ∉ A1.mut
  s1 : ls ∉ A1.mut
  w1 : lw ∉ A1.mut
  r2 : lr ∉ A2.mut
  g2 : lg ∉ A2.mut
  s2 : ls ∉ A2.mut
  w2 : lw ∉ A2.mut
  rs : lr ≠ ls
  rw : lr ≠ lw
  gs : lg ≠ ls
  gw : lg ≠ lw
  sw : ls ≠ lw
  rg : lr ≠ lg
theorem tz (R1 : Rn A1 P1 M1 σ) {c : Nat} {n : Nat} {fs : List (Nat × AV)} (hc : σ c = some (.inst n fs)) (h8 : n ≠ 8) (h9 : n ≠ 9) : c ∉ A1.mut := fun q => by
  unfold RA.mut at q
  simp only [List.mem_cons, List.not_mem_nil, or_false] at q
  rcases q with q | q | q | q | q | q <;> rw [q] at hc
  · rw [R1.s] at hc; injection hc with hc; injection hc with hc; exact h8 hc.symm
  · rw [R1.k] at hc; injection hc with hc; injection hc with hc; exact h9 hc.symm
  · rw [R1.o] at hc; cases hc
  · rw [R1.e] at hc; cases hc
  · rw [R1.ft] at hc; cases hc
  · rw [R1.bt] at hc; cases hc
theorem Rn.other (R2 : Rn A2 P2 M2 σ) (R1 : Rn A1 P1 M1 σ) (d : ∀ c ∈ A2.mut, c ∉ A1.mut) (k : ∀ c, c ∉ A1.mut → σ' c = σ c) : Rn A2 P2 M2 σ' where
  u := (k _ (tz R1 R2.u (by decide) (by decide))).trans R2.u
  s := (k _ (d _ tD)).trans R2.s
  k := (k _ (d _ wJ)).trans R2.k
  o := (k _ (d _ vG)).trans R2.o
  e := (k _ (d _ yS)).trans R2.e
  f := (k _ (tz R1 R2.f (by decide) (by decide))).trans R2.f
  ft := (k _ (d _ sr)).trans R2.ft
  bk := (k _ (tz R1 R2.bk (by decide) (by decide))).trans R2.bk
  bt := (k _ (d _ rY)).trans R2.bt
theorem Rn.lst (R : Rn A P M σ) {l : Nat} {xs ys : List AV} (hl : σ l = some (.list xs)) (hm : l ∉ A.mut) : Rn A P M (upd σ l (.list ys)) where
  u := (ag _ _ (aE R.u hl (by intro h; cases h))).trans R.u
  s := (ag _ _ (aE R.s hl (by intro h; cases h))).trans R.s
  k := (ag _ _ (aE R.k hl (by intro h; cases h))).trans R.k
  o := (ag _ _ (Ne.symm (nm hm vG))).trans R.o
  e := (ag _ _ (aE R.e hl (by intro h; cases h))).trans R.e
  f := (ag _ _ (aE R.f hl (by intro h; cases h))).trans R.f
  ft := (ag _ _ (Ne.symm (nm hm sr))).trans R.ft
  bk := (ag _ _ (aE R.bk hl (by intro h; cases h))).trans R.bk
  bt := (ag _ _ (Ne.symm (nm hm rY))).trans R.bt
theorem Ae {L1 L2 : List Nat} (d : ∀ c ∈ L2, c ∉ L1) : ∀ c ∈ L1, c ∉ L2 := fun c h1 h2 => d c h2 h1
theorem Rs.self {M' : Mo} {KF' KG' : List Int} {w : Str} {n : Int} {r : AV} (x : Rs P M KF KG w n r M' KF' KG') : Self 8 σ r := by
  cases x with
  | sendN _ => exact jW cT cT
  | handN _ => exact jW cT cT
  | tellN _ => exact jW cT cT
  | sendY _ _ => exact jW cT cr
  | handY _ _ => exact jW cT cr
  | tellY _ _ => exact jW cT cr
theorem xi {v : AV} (h : Self 8 σ v) {K : Bool → Prop} : cNe v v σ K = K false := by obtain ⟨p, h1, h2⟩ := h; exact tI h1 h1 h2
theorem tS : (Str.ofString "told" == Str.ofString "told") = true := beq_self_eq_true _
theorem tR : (Str.ofString "refused" == Str.ofString "told") = false := by decide +kernel
theorem tSH : (Str.ofString "send" == Str.ofString "hand") = false := by decide +kernel
theorem tHH : (Str.ofString "hand" == Str.ofString "hand") = true := beq_self_eq_true _
theorem tSS : (Str.ofString "send" == Str.ofString "send") = true := beq_self_eq_true _
theorem qH {K : List Int} {k : Int} : K.map AV.int ++ [.int k] = (K ++ [k]).map AV.int := by rw [List.map_append]; rfl
noncomputable def bR (F : Calls) : WS := (ad (bP (vBl (aX true (bK (vO2 aV (aa 4) (vC (.int 0))) (aM cEq (vC (.str (Str.ofString "told"))) bH)) (aX true (bK (vO2 aV (aa 1) (vC (.int 0))) (aM cEq (vC (.str (Str.ofString "send"))) bH)) (cU true)))) (ad (dz (vBm rcL dv (aa 2) (ac (vO2 aV (aa 1) (vC (.int 1))) ao))) ap) ap) (ad (bP (vBl (aX true (bK (vO2 aV (aa 4) (vC (.int 0))) (aM cEq (vC (.str (Str.ofString "told"))) bH)) (aX true (bK (vO2 aV (aa 1) (vC (.int 0))) (aM cEq (vC (.str (Str.ofString "hand"))) bH)) (cU true)))) (ad (dz (vBm rcL dv (aa 3) (ac (vO2 aV (bd F 10 17 26 (vO2 cH (aa 0) (vC (.int 0))) ao) (vC (.int 2))) ao))) ap) ap) (ad (bI (vC (.bool true))) ap)))
theorem tX (C : C2 P1 P2) (X1 : Ds A1) (X2 : Ds A2) (J : Dj A1 A2 lr lg ls lw) (W : W2 A1 A2 P1 P2 M1 M2 KF KG lr lg ls lw σ) {c : Nat} (N1 : Cnt M1 c) (N2 : Cnt M2 c) (lF : KF.length ≤ c) (lG : KG.length ≤ c) (hc : c ≤ 700) {w : Str} {n : Int} (hw : w ∈ Ws) (hn : 0 ≤ n ∧ n ≤ 999999)
    (h : ∀ M1' M2' KF' KG' σ', W2 A1 A2 P1 P2 M1' M2' KF' KG' lr lg ls lw σ' → Cnt M1' (c + 1) → Cnt M2' (c + 1) → KF'.length ≤ c + 1 → KG'.length ≤ c + 1 → (∀ x, x ∉ A1.mut → x ∉ A2.mut → x ≠ ls → x ≠ lw → σ' x = σ x) → Q (.bool true) σ') : wpF prg (d + 6) 39 [.obj lr, .tup [.str w, .int n], .obj ls, .obj lw] σ Q E := by
  have hc8 : c ≤ 800 := Nat.le_trans hc (by decide)
  refine aY (fi := fn39) rfl rfl ?_
  rw [show fn39.body (wpF prg (d + 5)) = ad (au 4 (aT (wpF prg (d + 5)) 36 (ac (vO2 cH (aa 0) (vC (.int 0))) (ac (aa 1) ao)))) (ad (bP (bK (aT (wpF prg (d + 5)) 36 (ac (vO2 cH (aa 0) (vC (.int 1))) (ac (aa 1) ao))) (aM cNe (aa 4) bH)) (ad (bI (vC (.bool false))) ap) ap) (bR (wpF prg (d + 5)))) from rfl]
  simp only [List.map_cons, List.map_nil, fn39, Nat.reduceSub, List.replicate_succ, List.replicate_zero, List.cons_append, List.nil_append, ae, aW, bj, an, aU, aN, aw, e_c, az, dM W.lr, Int.le_refl, Int.toNat_zero, List.getElem?_cons_zero, aB, ak, bG, am, al, aH, true_and]
  refine tN X1 C.y1 W.r1 W.i1 N1 hc8 hw hn fun r M1' KF1 KG1 σ1 x R1 I1 N1' k1 => ?_
  have R2 := W.r2.other W.r1 J.d k1
  have lr1 := (k1 _ J.r1).trans W.lr
  simp only [bQ, ri, ai, ae, bD, bC, bj, an, aU, aN, aw, e_c, az, dM lr1, Int.reduceLE, Int.toNat_one, List.getElem?_cons_succ, List.getElem?_cons_zero, aB, ak, bG, am, al, aH, true_and]
  refine tN X2 C.y2 R2 W.i2 N2 hc8 hw hn fun s M2' KF2 KG2 σ2 y R2' I2 N2' k2 => ?_
  obtain ⟨rfl, rfl, rfl, S'⟩ := Rs.same C.t C.y1 C.y2 W.i1 W.i2 W.s hn.1 x y
  have R1' := R1.other R2 (Ae J.d) k2
  have lr2 := (k2 _ J.r2).trans lr1
  have lg2 := (k2 _ J.g2).trans ((k1 _ J.g1).trans W.lg)
  have ls2 := (k2 _ J.s2).trans ((k1 _ J.s1).trans W.ls)
  have lw2 := (k2 _ J.w2).trans ((k1 _ J.w1).trans W.lw)
  have fr2 : ∀ x, x ∉ A1.mut → x ∉ A2.mut → σ2 x = σ x := fun x h1 h2 => (k2 x h2).trans (k1 x h1)
  simp only [aP, aD, fG, aO, xi (x.self (σ := σ2)), bL, ar, aK, aR, aS, ai]
  have lF1 : KF.length ≤ c + 1 := Nat.le_succ_of_le lF
  have lG1 : KG.length ≤ c + 1 := Nat.le_succ_of_le lG
  unfold bR
  cases x with
  | sendN _ =>
    simp only [ae, bD, ja, bq, bC, aU, fG, aw, e_c, az, bA, Int.le_refl, Int.toNat_zero, List.getElem?_cons_zero, aB, aP, aD, aO, gN, tR, bX, ar, aK, cv, fJ, cM, aR, aS, ai, bz, aJ, aA, aI, true_and]
    exact h _ _ _ _ _ ⟨R1', R2', I1, I2, S', lr2, lg2, ls2, lw2⟩ N1' N2' lF1 lG1 fun x h1 h2 _ _ => fr2 x h1 h2
  | handN _ =>
    simp only [ae, bD, ja, bq, bC, aU, fG, aw, e_c, az, bA, Int.le_refl, Int.toNat_zero, List.getElem?_cons_zero, aB, aP, aD, aO, gN, tR, bX, ar, aK, cv, fJ, cM, aR, aS, ai, bz, aJ, aA, aI, true_and]
    exact h _ _ _ _ _ ⟨R1', R2', I1, I2, S', lr2, lg2, ls2, lw2⟩ N1' N2' lF1 lG1 fun x h1 h2 _ _ => fr2 x h1 h2
  | tellN _ =>
    simp only [ae, bD, ja, bq, bC, aU, fG, aw, e_c, az, bA, Int.le_refl, Int.toNat_zero, List.getElem?_cons_zero, aB, aP, aD, aO, gN, tR, bX, ar, aK, cv, fJ, cM, aR, aS, ai, bz, aJ, aA, aI, true_and]
    exact h _ _ _ _ _ ⟨R1', R2', I1, I2, S', lr2, lg2, ls2, lw2⟩ N1' N2' lF1 lG1 fun x h1 h2 _ _ => fr2 x h1 h2
  | tellY _ _ =>
    simp only [ae, bD, ja, bq, bC, aU, fG, aw, e_c, az, bA, Int.le_refl, Int.toNat_zero, List.getElem?_cons_zero, aB, aP, aD, aO, gN, tS, dZ, iK, ar, aK, cv, fJ, ce, bG, qTS, bX, cM, aR, aS, ai, qTH, bz, aJ, aA, aI, true_and]
    exact h _ _ _ _ _ ⟨R1', R2', I1, I2, S', lr2, lg2, ls2, lw2⟩ N1' N2' lF1 lG1 fun x h1 h2 _ _ => fr2 x h1 h2
  | sendY _ _ =>
    simp only [ae, bD, ja, bq, bC, aU, fG, aw, e_c, az, bA, Int.le_refl, Int.toNat_zero, List.getElem?_cons_zero, aB, aP, aD, aO, gN, tS, dZ, iK, ar, aK, cv, fJ, ce, bG, tSS, eY, co, cP, uQ, cI, nk (rc := rcL) (v := .obj ls) (σ := σ2) ⟨_, _, rfl, ls2⟩, an, Int.reduceLE, Int.toNat_one, List.getElem?_cons_succ, ak, am, al, lA, iL ls2 (show (KF.map AV.int).length ≤ 1000000 by rw [List.length_map]; omega), qH, da, ai, aS, tSH, bX, cM, aR, bz, aJ, aA, aI, true_and]
    refine h _ _ _ _ _ ⟨R1'.lst ls2 J.s1, R2'.lst ls2 J.s2, I1, I2, S', (ag _ _ J.rs).trans lr2, (ag _ _ J.gs).trans lg2, aj _ _ _, (ag _ _ (Ne.symm J.sw)).trans lw2⟩ N1' N2' (by rw [List.length_append]; exact Nat.add_le_add_right lF 1) lG1 fun x h1 h2 h3 _ => (ag _ _ h3).trans (fr2 x h1 h2)
  | @handY n k _ _ =>
    simp only [ae, bD, ja, bq, bC, aU, fG, aw, e_c, az, bA, Int.le_refl, Int.toNat_zero, List.getElem?_cons_zero, aB, aP, aD, aO, gN, tS, dZ, iK, ar, aK, cv, fJ, ce, bG, qHS, bX, cM, aR, aS, ai, tHH, eY, co, cP, uQ, dO, nk (rc := rcL) (v := .obj lw) (σ := σ2) ⟨_, _, rfl, lw2⟩, an, bg, aN, dM lr2, aZ R1'.u (m := 17) rfl, am, aC, true_and]
    refine eg R1' ?_
    simp only [aw, e_c, az, bA, Int.reduceLE, Int.reduceToNat, List.getElem?_cons_succ, List.getElem?_cons_zero, aB, ak, am, al, lA, iL lw2 (show (KG.map AV.int).length ≤ 1000000 by rw [List.length_map]; omega), qH, da, ai, aS, ae, bz, aJ, aA, aI, true_and]
    refine h _ _ _ _ _ ⟨R1'.lst lw2 J.w1, R2'.lst lw2 J.w2, I1, I2, S', (ag _ _ J.rw).trans lr2, (ag _ _ J.gw).trans lg2, (ag _ _ J.sw).trans ls2, aj _ _ _⟩ N1' N2' lF1 (by rw [List.length_append]; exact Nat.add_le_add_right lG 1) fun x h1 h2 _ h4 => (ag _ _ h4).trans (fr2 x h1 h2)
end Ap.L08
end
section
namespace Ap.L08
open PySem
variable {d : Nat} {σ σ' : St} {Q : PQ} {E : PE}
variable {A A1 A2 : RA} {P P1 P2 : Pm} {M M1 M2 : Mo} {KF KG : List Int} {lr lg ls lw : Nat}
noncomputable def lB1 (F : Calls) : WS := (ad (bP (vBl (aX false (vO1 dY (aT F 39 (ac (aa 6) (ac (aa 9) (ac (aa 7) (ac (aa 8) ao)))))) (aX false (vO1 dY (aT F 38 (ac (aa 6) (ac (aa 3) (ac (aa 7) (ac (aa 8) (ac (vO2 bv (vO2 aV (aa 9) (vC (.int 1))) (vC (.int 3))) ao))))))) (cU false)))) (ad (bI (vC (.bool false))) ap) ap) ap)
noncomputable def lB2 (F : Calls) : WS := (ad (bP (vO1 dY (aT F 39 (ac (aa 6) (ac (aT F 37 (ac (vO2 cH (aa 6) (vC (.int 0))) (ac (aa 1) (ac (aa 10) ao)))) (ac (aa 7) (ac (aa 8) ao)))))) (ad (bI (vC (.bool false))) ap) ap) (ad (bP (bK (vO2 bv (vO2 bE (aa 10) (vC (.int 4000))) (vC (.int 7))) (aM cEq (vC (.int 1)) bH)) (ad (om (aa 6) (vC (.int 1)) (bd F 10 30 30 (vO2 cH (aa 6) (vC (.int 1))) ao)) ap) ap) (ad (bP (vO1 dY (aT F 38 (ac (aa 6) (ac (aa 3) (ac (aa 7) (ac (aa 8) (ac (vO2 bv (vO2 bE (aa 10) (vC (.int 640))) (vC (.int 3))) ao))))))) (ad (bI (vC (.bool false))) ap) ap) ap)))
noncomputable def bT3 (F : Calls) : WS := (ad (vQ 10 (vO1 (oSl false 5 45) (aa 0)) (lB2 F)) (ad (bI (aT F 38 (ac (aa 6) (ac (aa 3) (ac (aa 7) (ac (aa 8) (ac (vC (.int 0)) ao))))))) ap))
noncomputable def bT2 (F : Calls) : WS := (ad (bP (bK (vO2 bv (vO2 bE (aT F 31 (ac (aa 0) (ac (vC (.int 4)) ao))) (vC (.int 31))) (vC (.int 2))) (aM cEq (vC (.int 1)) bH)) (ad (oj 9 (cZ (aT F 35 (ac (aa 5) (ac (vO2 bv (vO2 bE (aT F 31 (ac (aa 0) (ac (vC (.int 4)) ao))) (vC (.int 62))) (vC (.int 30))) ao)))) (lB1 F)) ap) ap) (bT3 F))
noncomputable def bT1 (F : Calls) : WS := (ad (au 4 (vO2 bv (aT F 31 (ac (aa 0) (ac (vC (.int 4)) ao))) (vC (.int 31)))) (ad (au 5 (aT F 34 (ac (aT F 31 (ac (aa 0) (ac (vC (.int 3)) ao))) (ac (aa 4) (ac (vO2 cV (aa 4) (vC (.int 1))) ao))))) (ad (au 6 (cJ true (cZ (aa 3)) (tb1 11) [1, 5] (nQ F 10 23 (ac (aa 1) (ac (aa 11) (ac (aa 5) ao)))))) (ad (au 7 (ee true ao)) (ad (au 8 (ee true ao)) (bT2 F))))))
noncomputable def Stg (v : AV) : Prop := ∃ w n, v = .tup [.str w, .int n] ∧ w ∈ Ws ∧ 0 ≤ n ∧ n ≤ 999999
theorem st1 {k : Int} (h0 : 0 ≤ k) (h1 : k ≤ 1000) : Stg (.tup [.str (Str.ofString "send"), .int k]) := ⟨_, _, rfl, wS, h0, Int.le_trans h1 (by decide)⟩
theorem st2 {k : Int} (h0 : 0 ≤ k) (h1 : k ≤ 1000) : Stg (.tup [.str (Str.ofString "hand"), .int k]) := ⟨_, _, rfl, wH, h0, Int.le_trans h1 (by decide)⟩
theorem st3 {k : Int} (h0 : 0 ≤ k) (h1 : k ≤ 1000) : Stg (.tup [.str (Str.ofString "tell"), .int k]) := ⟨_, _, rfl, wT, h0, Int.le_trans h1 (by decide)⟩
theorem Dd {T : AV → Prop} {L : List AV} {a b c : AV} (h : ∀ v ∈ L, T v) (ha : T a) (hb : T b) (hc : T c) : ∀ v ∈ L ++ [a, b, c], T v := fun v hv => by
  rcases List.mem_append.mp hv with q | q
  · exact h v q
  · simp only [List.mem_cons, List.not_mem_nil, or_false] at q
    rcases q with rfl | rfl | rfl <;> assumption
theorem Dh {L : List AV} {a b c : AV} {n : Nat} (h : L.length ≤ n) : (L ++ [a, b, c]).length ≤ n + 3 := by rw [List.length_append]; exact Nat.add_le_add_right h 3
theorem sr1 {f : Int} {n : Nat} (h0 : 0 ≤ f) (h1 : f < 30) : (if (n : Int) < f then (n : Int) else f).natAbs < 1152921504606846976 ∧ (if (n : Int) < f then (n : Int) else f) ≤ 1000000 ∧ ((if (n : Int) < f then (n : Int) else f) - 0).toNat ≤ 29 := by
  split <;> omega
theorem sr2 {i n : Nat} (h : i < n) (h1 : n ≤ 29) : 0 ≤ (0 : Int) + i ∧ (0 : Int) + i ≤ 1000 ∧ 3 * i ≤ 87 := by omega
theorem sr3 {n i : Nat} (h : n ≤ 3 * i) (h1 : 3 * i ≤ 87) : n ≤ 999997 := by omega
theorem sr4 {n i : Nat} (h : n ≤ 3 * i + 3) : n ≤ 3 * (i + 1) := by omega
theorem qX {ts : List AV} {f : Int} (h0 : 0 ≤ f) (h1 : f < 30) (h : ∀ L : List AV, L.length ≤ 87 → (∀ v ∈ L, Stg v) → Q (.ilist L) σ) : wpF prg (d + 1) 35 [.ilist ts, .int f] σ Q E := by
  refine aY (fi := yu) rfl rfl ?_
  have m := sr1 (n := ts.length) h0 h1
  simp only [yu, List.map_cons, List.map_nil, Nat.reduceSub, List.replicate_succ, List.replicate_zero, List.cons_append, List.nil_append, w35, ae, aW, eW, am, fx, bQ, nU, ai, sW, mO, an, dF, bG, ak, aN, al, dH, yR, zR, sB, Nat.reducePow, pz]
  generalize (if (ts.length : Int) < f then (ts.length : Int) else f) = mn at m ⊢
  refine ⟨⟨m.1, m.2.1⟩, ?_⟩
  refine ku (fun i ρ σ' => σ' = σ ∧ ∃ L x, L.length ≤ 3 * i ∧ (∀ v ∈ L, Stg v) ∧ ρ = [some (.ilist ts), some (.int f), some (.ilist L), x]) _ 0 ?_ ?_ _ _ ⟨rfl, [], _, Nat.le_refl _, (fun _ q => nomatch q), rfl⟩
  · rintro i y hy ρ σ' R ⟨rfl, L, x, hl, hL, rfl⟩ hR
    refine ⟨trivial, ?_⟩
    obtain ⟨i1, rfl⟩ := oE hy
    rw [Nat.zero_add] at hl hR
    have k := sr2 i1 m.2.2
    simp only [mz, qi, ae, aW, aU, cI, aw, eW, an, cX, e_c, ak, dO, am, al, cn, fx, az, AC, List.length_cons, List.length_nil, Nat.reduceAdd, Nat.reduceLeDiff, bQ, nU, ai, aS]
    exact ⟨sr3 hl k.2.2, hR _ _ ⟨rfl, _, _, sr4 (Dh hl), Dd hL (st1 k.1 k.2.1) (st2 k.1 k.2.1) (st3 k.1 k.2.1), rfl⟩⟩
  · rintro ρ σ' ⟨rfl, L, x, hl, hL, rfl⟩
    refine ⟨trivial, ?_⟩
    simp only [ai, ae, bz, cI, aJ, aA, aI]
    refine h L (Nat.le_trans hl ?_) hL
    rw [gA]
    have := m.2.2
    omega
theorem ww {w r m b : Int} (hb : Bnd w r m b) (h : Q (.int (w + r + (if b > m then b else m))) σ) : wpF prg (d + 4) 6 [.tup [.int w, .int r, .int m, .int b]] σ Q E := by
  refine aY (fi := fn6) rfl rfl ?_
  simp only [fn6, List.map_cons, List.map_nil, Nat.reduceSub, List.replicate_zero, List.cons_append, List.nil_append, w6, ae, cP, bj, an, aN, ak, am, al, aH]
  refine oq hb ?_
  simp only [da, ai, ae, bz, aU, aN, aw, e_c, az, bA, Int.le_refl, Int.toNat_zero, List.getElem?_cons_zero, aB, Int.reduceLE, Int.toNat_one, List.getElem?_cons_succ, dq, dF, an, Int.reduceToNat, ak, am, al, dH, pc, aJ, aA, aI, true_and]
  exact h
theorem gl {w r m b l : Int} (hb : Bnd w r m b) (e : w + r + (if b > m then b else m) = l) : w + r + m ≤ l ∧ w + r + b ≤ l ∧ 2 ≤ l ∧ l ≤ 60 := by
  obtain ⟨h1, h2, h3, h4⟩ := hb
  split at e <;> omega
noncomputable abbrev Bt (P : Pm) : AV := .tup [.int P.w, .int P.r, .int P.m, .int P.b]
structure Gd (A1 A2 : RA) (P1 P2 : Pm) (M1 M2 : Mo) (KF KG : List Int) (lr lg ls lw : Nat) (i : Nat) (σ : St) : Prop where
  w : W2 A1 A2 P1 P2 M1 M2 KF KG lr lg ls lw σ
  j : Dj A1 A2 lr lg ls lw
  x : Ds A2
  n1 : Cnt M1 i
  n2 : Cnt M2 i
  f : KF.length ≤ i
  g : KG.length ≤ i
theorem vE (C : C2 P1 P2) (X1 : Ds A1) {i : Nat} (hi : i ≤ 300) (G : Gd A1 A2 P1 P2 M1 M2 KF KG lr lg ls lw i σ) {w : Str} {n : Int} (hw : w ∈ Ws) (n0 : 0 ≤ n) (n1 : n ≤ 999999) {o0 o1 o2 o4 o5 o9 o10 o11 : Option AV} {EE : ES} {R : QS}
    (h : ∀ M1' M2' KF' KG' σ' p9, Gd A1 A2 P1 P2 M1' M2' KF' KG' lr lg ls lw (i + 1) σ' → R .next [o0, o1, o2, some (.obj lg), o4, o5, some (.obj lr), some (.obj ls), some (.obj lw), p9, o10, o11] σ') :
    pd 9 (lB1 (wpF prg (d + 6))) EE (.tup [.str w, .int n]) [o0, o1, o2, some (.obj lg), o4, o5, some (.obj lr), some (.obj ls), some (.obj lw), o9, o10, o11] σ R := by
  unfold lB1
  simp only [mz, oP, ae, bD, ja, bq, bJ, bj, an, gZ, ak, nW, iY, ni, am, al, aH]
  refine tX C X1 G.x G.j G.w G.n1 G.n2 G.f G.g (Nat.le_trans hi (by decide)) hw ⟨n0, n1⟩ fun M1' M2' KF' KG' σ1 W1 a1 a2 b1 b2 _ => ?_
  simp only [bF, dc, fD, aK, cv, ma, iZ, ce, bq, bJ, bj, an, gZ, ak, dO, iY, ni, aU, nW, aw, e_c, az, bA, Int.reduceLE, Int.toNat_one, List.getElem?_cons_succ, List.getElem?_cons_zero, aB, bN, ne_eq, Int.reduceEq, not_false_eq_true, am, al, aH, true_and]
  refine ky C W1 (a1.more (by omega)) (a2.more (by omega)) fun σ2 k2 => ?_
  simp only [bF, dc, fD, aK, cv, ma, iZ, ce, eY, ar, aR, aS, ai]
  exact h _ _ _ _ _ _ ⟨W1.same k2, G.j, G.x, a1, a2, b1, b2⟩
theorem vD (C : C2 P1 P2) (X1 : Ds A1) {i : Nat} (hi : i ≤ 300) (G : Gd A1 A2 P1 P2 M1 M2 KF KG lr lg ls lw i σ) {c : Int} {o0 o2 o4 o5 o9 o10 o11 : Option AV} {EE : ES} {R : QS}
    (h : ∀ A2' M1' M2' KF' KG' σ' p10, Gd A1 A2' P1 P2 M1' M2' KF' KG' lr lg ls lw (i + 1) σ' → R .next [o0, some (Bt P1), o2, some (.obj lg), o4, o5, some (.obj lr), some (.obj ls), some (.obj lw), o9, p10, o11] σ') :
    pd 10 (lB2 (wpF prg (d + 6))) EE (.int c) [o0, some (Bt P1), o2, some (.obj lg), o4, o5, some (.obj lr), some (.obj ls), some (.obj lw), o9, o10, o11] σ R := by
  unfold lB2
  simp only [mz, AW, ae, bD, bJ, bj, an, gZ, ak, aU, aw, e_c, az, dM G.w.lr, Int.le_refl, Int.toNat_zero, List.getElem?_cons_zero, aB, bG, uj, am, al, aH, true_and]
  refine wz C.y1 G.w.r1 G.w.i1 (G.n1.more (by omega)) C.l C.h1 fun w n σ1 hw n0 n1 k1 => ?_
  have W1 := G.w.same k1
  simp only [ak, an, iY, ni, am, al, aH]
  refine tX C X1 G.x G.j W1 G.n1 G.n2 G.f G.g (Nat.le_trans hi (by decide)) hw ⟨n0, n1⟩ fun M1' M2' KF' KG' σ2 W2' a1 a2 b1 b2 _ => ?_
  simp only [bF, dc, fD, aK, aR, aS, ai, ae, bD, bC, aU, uj, aw, e_c, az, bT, ne_eq, Int.reduceEq, not_false_eq_true, Int.reduceAbs, Nat.reduceLT, and_true, bN, aP, aD, aO, gR, bL, ar, true_and]
  cases ((c.fdiv 4000).fmod 7 == 1) with
  | false =>
    simp only [aR, aS, ai, ae, bD, bJ, bj, an, gZ, ak, dO, iY, ni, aU, uj, aw, e_c, az, bT, ne_eq, Int.reduceEq, not_false_eq_true, Int.reduceAbs, Nat.reduceLT, and_true, bN, am, al, aH, true_and]
    refine ky C W2' (a1.more (by omega)) (a2.more (by omega)) fun σ3 k3 => ?_
    simp only [bF, dc, fD, aK, aR, aS, ai]
    exact h _ _ _ _ _ _ _ ⟨W2'.same k3, G.j, G.x, a1, a2, b1, b2⟩
  | true =>
    simp only [co, ae, vX, bg, aU, gZ, aw, e_c, az, dM W2'.lr, Int.reduceLE, Int.toNat_one, List.getElem?_cons_succ, List.getElem?_cons_zero, aB, aZ W2'.r2.u (m := 30) rfl, am, aC, true_and]
    refine uP C.y2 C.g2 (by rw [← C.t.ts]; exact C.l) C.h2 W2'.r2 (a2.more (by omega)) fun A3 σ3 X3 R3 k3 z3 => ?_
    have W3 := W2'.same k3
    have nz : ∀ {x : Nat} {o : AObj}, σ2 x = some o → x ∉ A3.mut := fun {x o} hx q => by have := z3 x q; rw [hx] at this; cases this
    have J' : Dj A1 A3 lr lg ls lw := by
      refine ⟨fun x hx q => ?_, G.j.r1, G.j.g1, G.j.s1, G.j.w1, nz W2'.lr, nz W2'.lg, nz W2'.ls, nz W2'.lw, G.j.rs, G.j.rw, G.j.gs, G.j.gw, G.j.sw, G.j.rg⟩
      have zx := z3 x hx
      unfold RA.mut at q
      simp only [List.mem_cons, List.not_mem_nil, or_false] at q
      rcases q with q | q | q | q | q | q <;> rw [q] at zx
      · rw [W2'.r1.s] at zx; cases zx
      · rw [W2'.r1.k] at zx; cases zx
      · rw [W2'.r1.o] at zx; cases zx
      · rw [W2'.r1.e] at zx; cases zx
      · rw [W2'.r1.ft] at zx; cases zx
      · rw [W2'.r1.bt] at zx; cases zx
    simp only [wE, gZ, wI, e_c, vH W3.lr, Int.reduceLE, List.length_cons, List.length_nil, Nat.reduceAdd, true_and, Int.toNat_one, ai, aS, ae, bD, bJ, bj, an, ak, dO, iY, ni, aU, uj, aw, az, bT, ne_eq, Int.reduceEq, not_false_eq_true, Int.reduceAbs, Nat.reduceLT, and_true, bN, am, al, aH]
    have W4 : W2 A1 A3 P1 P2 M1' M2' KF' KG' lr lg ls lw (upd σ3 lr (.list [.obj A1.u, .obj A3.u])) := ⟨W3.r1.lst W3.lr J'.r1, R3.lst W3.lr J'.r2, W3.i1, W3.i2, W3.s, aj _ _ _, (ag _ _ (Ne.symm J'.rg)).trans W3.lg, (ag _ _ (Ne.symm J'.rs)).trans W3.ls, (ag _ _ (Ne.symm J'.rw)).trans W3.lw⟩
    refine ⟨by decide, ?_⟩
    rw [show ([AV.obj A1.u, .obj A2.u].set 1 (.obj A3.u)) = [.obj A1.u, .obj A3.u] from rfl]
    refine ky C W4 (a1.more (by omega)) (a2.more (by omega)) fun σ5 k5 => ?_
    simp only [bF, dc, fD, aK, aR, aS, ai]
    exact h _ _ _ _ _ _ _ ⟨W4.same k5, J', X3, a1, a2, b1, b2⟩
theorem qx (ns : List Int) (C : C2 P1 P2) (X1 : Ds A1) (G : Gd A1 A2 P1 P2 M1 M2 KF KG lr lg ls lw 100 σ) {o2 o4 o5 o9 o10 o11 : Option AV} (h : ∀ σ, Q (.bool true) σ) :
    bT3 (wpF prg (d + 6)) [some (.ilist (ns.map .int)), some (Bt P1), o2, some (.obj lg), o4, o5, some (.obj lr), some (.obj ls), some (.obj lw), o9, o10, o11] σ (kFn Q) (eFn E) := by
  unfold bT3
  simp only [ae, yW, bJ, aN, bF, De, BK]
  have hl40 : (List.drop 5 (List.take 45 (ns.map AV.int))).length ≤ 40 := by rw [List.length_drop, List.length_take]; omega
  refine ku (fun i ρ σ' => ∃ A2 M1 M2 KF KG x10, Gd A1 A2 P1 P2 M1 M2 KF KG lr lg ls lw (100 + i) σ' ∧ ρ = [some (.ilist (ns.map .int)), some (Bt P1), o2, some (.obj lg), o4, o5, some (.obj lr), some (.obj ls), some (.obj lw), o9, x10, o11]) _ 0 ?_ ?_ _ _ ⟨_, _, _, _, _, _, G, rfl⟩
  · rintro i y hy ρ σ' R' ⟨A2, M1, M2, KF, KG, x10, G', rfl⟩ hR
    refine ⟨trivial, ?_⟩
    obtain ⟨c, rfl⟩ : ∃ c, y = .int c := by
      have := List.mem_of_mem_take (List.mem_of_mem_drop (List.mem_of_getElem? hy))
      obtain ⟨c, _, e⟩ := List.mem_map.mp this
      exact ⟨c, e.symm⟩
    have hi := Nat.lt_of_lt_of_le (List.getElem?_eq_some_iff.mp hy).1 hl40
    rw [Nat.zero_add] at G' hR
    exact vD C X1 (by omega) G' fun A2' M1' M2' KF' KG' σ'' p10 G'' => hR _ _ ⟨_, _, _, _, _, _, G'', rfl⟩
  · rintro ρ σ' ⟨A2, M1, M2, KF, KG, x10, G', rfl⟩
    refine ⟨trivial, ?_⟩
    simp only [ai, ae, bz, bj, an, gZ, ak, dO, iY, ni, e_c, am, al, aH]
    refine ky C G'.w (G'.n1.more (by rw [Nat.zero_add]; omega)) (G'.n2.more (by rw [Nat.zero_add]; omega)) fun σ2 _ => ?_
    simp only [aJ, aA, aI]
    exact h _
theorem wh (ns : List Int) (C : C2 P1 P2) (X1 : Ds A1) (G : Gd A1 A2 P1 P2 M1 M2 KF KG lr lg ls lw 0 σ) {o2 o4 o9 o10 o11 : Option AV} {ts : List AV} (h : ∀ σ, Q (.bool true) σ) :
    bT2 (wpF prg (d + 6)) [some (.ilist (ns.map .int)), some (Bt P1), o2, some (.obj lg), o4, some (.ilist ts), some (.obj lr), some (.obj ls), some (.obj lw), o9, o10, o11] σ (kFn Q) (eFn E) := by
  have up : ∀ {M1 M2 : Mo} {KF KG : List Int} {i : Nat} {σ : St}, i ≤ 100 → Gd A1 A2 P1 P2 M1 M2 KF KG lr lg ls lw i σ → Gd A1 A2 P1 P2 M1 M2 KF KG lr lg ls lw 100 σ := fun hi G => ⟨G.w, G.j, G.x, G.n1.more hi, G.n2.more hi, Nat.le_trans G.f hi, Nat.le_trans G.g hi⟩
  unfold bT2
  simp only [ae, bD, bC, aU, bj, an, aN, ak, e_c, am, al, aH]
  refine lW 4 rfl ?_
  simp only [aw, e_c, az, bT, ne_eq, Int.reduceEq, not_false_eq_true, Int.reduceAbs, Nat.reduceLT, and_true, bN, aP, aD, aO, gR, bL, ar, aK, true_and]
  cases (((ns.getD 4 0).fdiv 31).fmod 2 == 1) with
  | false =>
    simp only [aR, aS, ai]
    exact qx ns C X1 (up (by decide) G) h
  | true =>
    simp only [co, ae, sW, dy, bj, an, kZ, ak, aU, aN, e_c, am, al, aH]
    refine lW 4 rfl ?_
    simp only [aw, e_c, az, bT, ne_eq, Int.reduceEq, not_false_eq_true, Int.reduceAbs, Nat.reduceLT, and_true, bN, ak, am, al, aH, true_and]
    refine qX (bB (by decide)) (bU (by decide)) fun L sl sL => ?_
    simp only [sX, pz]
    refine ku (fun i ρ σ' => ∃ M1 M2 KF KG x9, Gd A1 A2 P1 P2 M1 M2 KF KG lr lg ls lw i σ' ∧ ρ = [some (.ilist (ns.map .int)), some (Bt P1), o2, some (.obj lg), o4, some (.ilist ts), some (.obj lr), some (.obj ls), some (.obj lw), x9, o10, o11]) _ 0 ?_ ?_ _ _ ⟨_, _, _, _, _, G, rfl⟩
    · rintro i y hy ρ σ' R' ⟨M1, M2, KF, KG, x9, G', rfl⟩ hR
      refine ⟨trivial, ?_⟩
      obtain ⟨w, n, rfl, hw, n0, n1⟩ := sL y (List.mem_of_getElem? hy)
      have hi := Nat.lt_of_lt_of_le (List.getElem?_eq_some_iff.mp hy).1 sl
      rw [Nat.zero_add] at G' hR
      exact vE C X1 (by omega) G' hw n0 n1 fun M1' M2' KF' KG' σ'' p9 G'' => hR _ _ ⟨_, _, _, _, _, G'', rfl⟩
    · rintro ρ σ' ⟨M1, M2, KF, KG, x9, G', rfl⟩
      refine ⟨trivial, ?_⟩
      simp only [ai, aS]
      exact qx ns C X1 (up (by rw [Nat.zero_add]; omega) G') h
end Ap.L08
end
section
namespace Ap.L08
open PySem
variable {d : Nat} {σ σ' : St} {Q : PQ} {E : PE}
variable {A A1 A2 : RA} {P P1 P2 : Pm} {M M1 M2 : Mo} {KF KG : List Int} {lr lg ls lw : Nat}
theorem ga {x : Int} (h0 : 0 ≤ x) (h1 : x < 31) : x ≤ 100 ∧ 1 ≤ x + 1 ∧ x + 1 ≤ 100 ∧ x.toNat ≤ 400 := by omega
theorem Cn {a b c e f g h i j k l m : Option AV} : dA [1, 5] [a, b, c, e, f, g, h, i, j, k, l, m] = [Option.none, b, Option.none, Option.none, Option.none, g, Option.none, Option.none, Option.none, Option.none, Option.none, Option.none] := rfl
theorem fU (R : Rn A P M σ) {c : Nat} (hc : c ∈ A.mut) : σ c ≠ Option.none := by
  unfold RA.mut at hc
  simp only [List.mem_cons, List.not_mem_nil, or_false] at hc
  rcases hc with q | q | q | q | q | q <;> rw [q] <;> intro z
  · rw [R.s] at z; cases z
  · rw [R.k] at z; cases z
  · rw [R.o] at z; cases z
  · rw [R.e] at z; cases z
  · rw [R.ft] at z; cases z
  · rw [R.bt] at z; cases z
theorem tG {w r m b g : Int} {ts : List AV} (hb : Bnd w r m b) (gg : 1 ≤ g ∧ g ≤ 200) (hl : ts.length ≤ 400) (ht : ∀ x ∈ ts, S40 x) {R : PQ} {o0 o2 o3 o4 o6 o7 o8 o9 o10 o11 : Option AV}
    (h : ∀ (A : RA) σ', Ds A → Rn A ⟨w, r, m, b, g, ts⟩ ⟨0, 0, 0, [], [], [], []⟩ σ' → (∀ x, σ x ≠ Option.none → σ' x = σ x) → (∀ x ∈ A.mut, σ x = Option.none) → R (.obj A.u) σ') :
    sR (tb1 11) (nQ (wpF prg 13) 10 23 (ac (aa 1) (ac (aa 11) (ac (aa 5) ao)))) [o0, some (.tup [.int w, .int r, .int m, .int b]), o2, o3, o4, some (.ilist ts), o6, o7, o8, o9, o10, o11] (.int g) σ R := by
  rw [em]
  simp only [Bm, ou, an, bG, ak, Bh, kZ, am, al, lj]
  intro u hu
  refine qN (d := 9) (P := ⟨w, r, m, b, g, ts⟩) (aj _ _ _) hb gg (v := .ilist ts) rfl hl ht fun A σ1 Au X R0 k1 f1 => ?_
  subst Au
  have fr0 : ∀ c, σ c ≠ Option.none → upd σ A.u (.inst 10 []) c = σ c := fun c hc => ag _ _ fun q => hc (q ▸ hu)
  have fr1 : ∀ c, σ c ≠ Option.none → σ1 c = σ c := fun c hc => (k1 c (fun q => hc (q ▸ hu)) (by rw [fr0 c hc]; exact hc)).trans (fr0 c hc)
  simp only [iT]
  exact h A σ1 X R0 fr1 fun c hc => (nw (f1 c (List.mem_cons_of_mem _ (List.mem_cons_of_mem _ hc)))).2
theorem qM (ns : List Int) {w r m b g1 g2 : Int} (hb : Bnd w r m b) (a1 : w + r + m ≤ g1) (a2 : w + r + b ≤ g1) (a3 : g1 ≤ 200) (b1 : w + r + m ≤ g2) (b2 : w + r + b ≤ g2) (b3 : g2 ≤ 200) (hlg : σ lg = some (.list [.int g1, .int g2])) {o2 : Option AV} (h : ∀ σ, Q (.bool true) σ) :
    bT1 (wpF prg 13) [some (.ilist (ns.map .int)), some (.tup [.int w, .int r, .int m, .int b]), o2, some (.obj lg), Option.none, Option.none, Option.none, Option.none, Option.none, Option.none, Option.none, Option.none] σ (kFn Q) (eFn E) := by
  unfold bT1
  simp only [ae, aW, aU, bj, an, aN, ak, e_c, am, al, aH]
  refine lW 4 rfl ?_
  have m0 := bB (a := ns.getD 4 0) (b := 31) (by decide)
  have m1 := ga m0 (bU (a := ns.getD 4 0) (b := 31) (by decide))
  simp only [aw, e_c, az, bN, ne_eq, Int.reduceEq, not_false_eq_true, bQ, ri, ai, ae, aW, bj, an, aN, ak, am, al, aH, true_and]
  refine lW 3 rfl ?_
  simp only [ak, an, fG, aU, aw, e_c, az, dq, am, al, aH]
  refine vY m1.2.1 m1.2.2.1 m0 m1.1 fun ts tl ht => ?_
  have tl4 : ts.length ≤ 400 := by rw [tl]; exact m1.2.2.2
  have p1 : 1 ≤ g1 ∧ g1 ≤ 200 := by have := hb.1; have := hb.2.1; have := hb.2.2.1; omega
  have p2 : 1 ≤ g2 ∧ g2 ≤ 200 := by have := hb.1; have := hb.2.1; have := hb.2.2.1; omega
  have C : C2 ⟨w, r, m, b, g1, ts⟩ ⟨w, r, m, b, g2, ts⟩ := ⟨⟨rfl, rfl, rfl, rfl, rfl⟩, ⟨hb, a1, a2⟩, ⟨hb, b1, b2⟩, a3, b3, tl4, ht, ht⟩
  simp only [bQ, qK, ai, ae, aW]
  rw [dN]
  refine ⟨rfl, ?_⟩
  rw [Cn]
  simp only [dy, dO, iE hlg, dh]
  refine ⟨hlg, tG hb p1 tl4 ht fun A1 σ1 X1 R1 k1 z1 => ?_⟩
  have hlg1 := (k1 _ (cK hlg)).trans hlg
  refine ⟨hlg1, tG hb p2 tl4 ht fun A2 σ2 X2 R2 k2 z2 => ?_⟩
  have hlg2 := (k2 _ (cK hlg1)).trans hlg1
  refine ⟨hlg2, ?_⟩
  have R1' := R1.same k2
  rw [List.nil_append]
  simp only [List.cons_append, List.nil_append, qV, bQ, xr, ai, ae, aW, eW, am, nr, uq, wC]
  intro lr hr
  have u3 := aj σ2 lr (.list [.obj A1.u, .obj A2.u])
  have k3 : ∀ c, σ2 c ≠ Option.none → upd σ2 lr (.list [.obj A1.u, .obj A2.u]) c = σ2 c := cw (fun _ _ => rfl) hr
  generalize upd σ2 lr (.list [.obj A1.u, .obj A2.u]) = σ3 at u3 k3 ⊢
  intro ls hs
  have u4 := aj σ3 ls (.list [])
  have k4 : ∀ c, σ3 c ≠ Option.none → upd σ3 ls (.list []) c = σ3 c := cw (fun _ _ => rfl) hs
  generalize upd σ3 ls (.list []) = σ4 at u4 k4 ⊢
  intro lw hw
  have u5 := aj σ4 lw (.list [])
  have k5 : ∀ c, σ4 c ≠ Option.none → upd σ4 lw (.list []) c = σ4 c := cw (fun _ _ => rfl) hw
  generalize upd σ4 lw (.list []) = σ5 at u5 k5 ⊢
  have R13 := R1'.same k3
  have R14 := R13.same k4
  have R23 := R2.same k3
  have R24 := R23.same k4
  have g3 := (k3 _ (cK hlg2)).trans hlg2
  have g4 := (k4 _ (cK g3)).trans g3
  have r4 := (k4 _ (cK u3)).trans u3
  have J : Dj A1 A2 lr lg ls lw := ⟨fun c c2 c1 => fU R1 c1 (z2 c c2), fun q => fU R1' q hr, fun q => cK hlg (z1 _ q), fun q => fU R13 q hs, fun q => fU R14 q hw, fun q => fU R2 q hr, fun q => cK hlg1 (z2 _ q), fun q => fU R23 q hs, fun q => fU R24 q hw, cm u3 hs, cm r4 hw, cm g3 hs, cm g4 hw, cm u4 hw, Ne.symm (cm hlg2 hr)⟩
  have n0 : Cnt ⟨0, 0, 0, [], [], [], []⟩ 0 := ⟨Nat.le_refl _, Nat.le_refl _, Nat.le_refl _⟩
  have W : W2 A1 A2 ⟨w, r, m, b, g1, ts⟩ ⟨w, r, m, b, g2, ts⟩ ⟨0, 0, 0, [], [], [], []⟩ ⟨0, 0, 0, [], [], [], []⟩ [] [] lr lg ls lw σ5 := ⟨R14.same k5, R24.same k5, Inv.new C.y1, Inv.new C.y2, ⟨rfl, rfl, rfl, rfl, rfl⟩, (k5 _ (cK r4)).trans r4, (k5 _ (cK g4)).trans g4, (k5 _ (cK u4)).trans u4, u5⟩
  exact wh (d := 7) ns C X1 ⟨W, J, X2, n0, n0, Nat.le_refl _, Nat.le_refl _⟩ h
theorem gr1 {l x y : Int} (hl : 2 ≤ l ∧ l ≤ 60) (x0 : 0 ≤ x) (x1 : x < 3) (y0 : 0 ≤ y) (y1 : y < 200 - l) : (l ≤ l + x ∧ l + x ≤ 200) ∧ (l ≤ l + 1 + y ∧ l + 1 + y ≤ 200) ∧ (l ≤ l + 1 + y - 1 ∧ l + 1 + y - 1 ≤ 200) := by omega
theorem gr2 {l : Int} (hl : 2 ≤ l ∧ l ≤ 60) : 200 - l ≠ 0 ∧ 0 < 200 - l := by omega
theorem zI (ns : List Int) (hn : ns.length ≤ 63) (h : ∀ σ, Q (.bool true) σ) : wpF prg 14 40 [.ilist (ns.map .int)] (fun _ => Option.none) Q E := by
  refine aY (fi := fn40) rfl rfl ?_
  rw [show fn40.body (wpF prg 13) = (ad (au 1 (aT (wpF prg 13) 33 (ac (aa 0) ao))) (ad (au 2 (aT (wpF prg 13) 6 (ac (aa 1) ao))) (ad (au 3 (ee true (ac (vO2 cV (aa 2) (vO2 bv (aT (wpF prg 13) 31 (ac (aa 0) (ac (vC (.int 2)) ao))) (vC (.int 3)))) (ac (vO2 cV (vO2 cV (aa 2) (vC (.int 1))) (vO2 bv (vO2 bE (aT (wpF prg 13) 31 (ac (aa 0) (ac (vC (.int 2)) ao))) (vC (.int 3))) (vO2 iX (vC (.int 200)) (aa 2)))) ao)))) (ad (bP (bK (vO2 cH (aa 3) (vC (.int 0))) (aM cEq (vO2 cH (aa 3) (vC (.int 1))) bH)) (ad (om (aa 3) (vC (.int 1)) (vO2 iX (vO2 cH (aa 3) (vC (.int 1))) (vC (.int 1)))) ap) ap) (bT1 (wpF prg 13)))))) from rfl]
  simp only [List.map_cons, List.map_nil, fn40, Nat.reduceSub, List.replicate_succ, List.replicate_zero, List.cons_append, List.nil_append, ae, aW, bj, an, aN, ak, am, al, aH]
  refine ux fun w r m b hb => ?_
  simp only [bQ, sU, ai, ae, aW, bj, an, bG, ak, am, al, aH]
  refine ww hb ?_
  obtain ⟨l, hl⟩ : ∃ l, w + r + (if b > m then b else m) = l := ⟨_, rfl⟩
  obtain ⟨l1, l2, l3, l4⟩ := gl hb hl
  rw [hl]
  simp only [bQ, nU, ai, ae, aW, eW, an, aU, cI, aw, bj, aN, ak, e_c, am, al, aH]
  refine lW 2 rfl ?_
  simp only [aw, e_c, az, bN, ne_eq, Int.reduceEq, not_false_eq_true, dq, ak, an, aU, cI, bj, aN, am, al, aH, true_and]
  refine lW 2 rfl ?_
  have z := gr2 ⟨l3, l4⟩
  have q := gr1 ⟨l3, l4⟩ (bB (a := ns.getD 2 0) (b := 3) (by decide)) (bU (a := ns.getD 2 0) (b := 3) (by decide)) (bB (a := (ns.getD 2 0).fdiv 3) z.2) (bU (a := (ns.getD 2 0).fdiv 3) z.2)
  simp only [aw, e_c, az, bT, ne_eq, Int.reduceEq, not_false_eq_true, Int.reduceAbs, Nat.reduceLT, and_true, aU, cI, iy, bN, z.1, dq, ak, am, al, nr, bQ, qi, ai, ae, bD, bC, dO, true_and]
  intro lg hlg
  generalize l + (ns.getD 2 0).fmod 3 = ga at q ⊢
  generalize l + 1 + ((ns.getD 2 0).fdiv 3).fmod (200 - l) = gb at q ⊢
  have u1 := aj (fun _ => Option.none : St) lg (.list [.int ga, .int gb])
  generalize upd (fun _ => Option.none : St) lg (.list [.int ga, .int gb]) = σ1 at u1 ⊢
  simp only [dM u1, Int.le_refl, Int.toNat_zero, List.getElem?_cons_zero, aB, aP, aD, aU, dO, aw, e_c, az, Int.reduceLE, Int.toNat_one, List.getElem?_cons_succ, aO, gR, bL, ar, aK, true_and]
  obtain ⟨⟨q1, q2⟩, ⟨q3, q4⟩, q5, q6⟩ := q
  cases (ga == gb) with
  | false =>
    simp only [aR, aS, ai]
    exact qM ns hb (Int.le_trans l1 q1) (Int.le_trans l2 q1) q2 (Int.le_trans l1 q3) (Int.le_trans l2 q3) q4 u1 h
  | true =>
    simp only [co, ae, vX, aU, dO, aw, e_c, az, dM u1, Int.reduceLE, Int.toNat_one, List.getElem?_cons_succ, List.getElem?_cons_zero, aB, iy, wE, wI, vH u1, List.length_cons, List.length_nil, true_and, List.set_cons_succ, List.set_cons_zero, ai, aS]
    refine ⟨by decide, ?_⟩
    exact qM ns hb (Int.le_trans l1 q1) (Int.le_trans l2 q1) q2 (Int.le_trans l1 q5) (Int.le_trans l2 q5) q6 (aj _ _ _) h
end Ap.L08
end
section
namespace Ap.L08
open PySem PySem.W
noncomputable def fa : List Addr := [21, 113, 120, 127, 134, 141, 148, 162, 169, 176, 183, 190, 211, 218, 225, 232, 253, 260, 267, 274, 281, 296, 303, 317, 324, 331, 338, 345, 350, 357, 364, 378, 385, 399, 404, 411, 418, 425, 430, 437, 442]
noncomputable def ca : List Addr := [31, 44, 56, 68, 80, 92, 104, 193, 235, 284, 367]
theorem BG {fd : FuncData} {r : List Value → List (Str × Value)} (h : ∀ a0 a1 a2 a3 a4, bindArgs fd ⟨[a0, a1, a2, a3, a4], []⟩ = pure (r [a0, a1, a2, a3, a4])) (vals : List Value) (hl : vals.length = 5) : bindArgs fd ⟨vals, []⟩ = pure (r vals) := by
  obtain ⟨a0, v0, rfl, h0⟩ := df hl
  obtain ⟨a1, v1, rfl, h1⟩ := df h0
  obtain ⟨a2, v2, rfl, h2⟩ := df h1
  obtain ⟨a3, v3, rfl, h3⟩ := df h2
  obtain ⟨a4, rfl⟩ := List.length_eq_one_iff.mp h3
  exact h a0 a1 a2 a3 a4
theorem f0 (p : Params) : FnK (K p) 21 fn0 ft0 := ⟨by kernel_rfl, by kernel_rfl, by kernel_rfl, by kernel_rfl, by kernel_rfl, by kernel_rfl, by kernel_rfl, by kernel_rfl, by kernel_rfl, cY fun a => by kernel_rfl⟩
theorem f1 (p : Params) : FnK (K p) 113 fn1 ft1 := ⟨by kernel_rfl, by kernel_rfl, by kernel_rfl, by kernel_rfl, by kernel_rfl, by kernel_rfl, by kernel_rfl, by kernel_rfl, by kernel_rfl, qz fun a b c => by kernel_rfl⟩
theorem f2 (p : Params) : FnK (K p) 120 fn2 ft2 := ⟨by kernel_rfl, by kernel_rfl, by kernel_rfl, by kernel_rfl, by kernel_rfl, by kernel_rfl, by kernel_rfl, by kernel_rfl, by kernel_rfl, cY fun a => by kernel_rfl⟩
theorem f3 (p : Params) : FnK (K p) 127 fn3 ft3 := ⟨by kernel_rfl, by kernel_rfl, by kernel_rfl, by kernel_rfl, by kernel_rfl, by kernel_rfl, by kernel_rfl, by kernel_rfl, by kernel_rfl, cY fun a => by kernel_rfl⟩
theorem f4 (p : Params) : FnK (K p) 134 fn4 ft4 := ⟨by kernel_rfl, by kernel_rfl, by kernel_rfl, by kernel_rfl, by kernel_rfl, by kernel_rfl, by kernel_rfl, by kernel_rfl, by kernel_rfl, cY fun a => by kernel_rfl⟩
theorem f5 (p : Params) : FnK (K p) 141 fn5 ft5 := ⟨by kernel_rfl, by kernel_rfl, by kernel_rfl, by kernel_rfl, by kernel_rfl, by kernel_rfl, by kernel_rfl, by kernel_rfl, by kernel_rfl, cY fun a => by kernel_rfl⟩
theorem f6 (p : Params) : FnK (K p) 148 fn6 ft6 := ⟨by kernel_rfl, by kernel_rfl, by kernel_rfl, by kernel_rfl, by kernel_rfl, by kernel_rfl, by kernel_rfl, by kernel_rfl, by kernel_rfl, cY fun a => by kernel_rfl⟩
theorem f7 (p : Params) : FnK (K p) 162 fn7 ft7 := ⟨by kernel_rfl, by kernel_rfl, by kernel_rfl, by kernel_rfl, by kernel_rfl, by kernel_rfl, by kernel_rfl, by kernel_rfl, by kernel_rfl, jd fun a b => by kernel_rfl⟩
theorem f8 (p : Params) : FnK (K p) 169 fn8 ft8 := ⟨by kernel_rfl, by kernel_rfl, by kernel_rfl, by kernel_rfl, by kernel_rfl, by kernel_rfl, by kernel_rfl, by kernel_rfl, by kernel_rfl, cY fun a => by kernel_rfl⟩
theorem f9 (p : Params) : FnK (K p) 176 fn9 ft9 := ⟨by kernel_rfl, by kernel_rfl, by kernel_rfl, by kernel_rfl, by kernel_rfl, by kernel_rfl, by kernel_rfl, by kernel_rfl, by kernel_rfl, jd fun a b => by kernel_rfl⟩
theorem f10 (p : Params) : FnK (K p) 183 wX ft10 := ⟨by kernel_rfl, by kernel_rfl, by kernel_rfl, by kernel_rfl, by kernel_rfl, by kernel_rfl, by kernel_rfl, by kernel_rfl, by kernel_rfl, cY fun a => by kernel_rfl⟩
theorem f11 (p : Params) : FnK (K p) 190 uv ft11 := ⟨by kernel_rfl, by kernel_rfl, by kernel_rfl, by kernel_rfl, by kernel_rfl, by kernel_rfl, by kernel_rfl, by kernel_rfl, by kernel_rfl, jd fun a b => by kernel_rfl⟩
theorem f12 (p : Params) : FnK (K p) 211 wO ft12 := ⟨by kernel_rfl, by kernel_rfl, by kernel_rfl, by kernel_rfl, by kernel_rfl, by kernel_rfl, by kernel_rfl, by kernel_rfl, by kernel_rfl, wN fun a b c d => by kernel_rfl⟩
theorem f13 (p : Params) : FnK (K p) 218 yE ft13 := ⟨by kernel_rfl, by kernel_rfl, by kernel_rfl, by kernel_rfl, by kernel_rfl, by kernel_rfl, by kernel_rfl, by kernel_rfl, by kernel_rfl, cY fun a => by kernel_rfl⟩
theorem f14 (p : Params) : FnK (K p) 225 xZ ft14 := ⟨by kernel_rfl, by kernel_rfl, by kernel_rfl, by kernel_rfl, by kernel_rfl, by kernel_rfl, by kernel_rfl, by kernel_rfl, by kernel_rfl, jd fun a b => by kernel_rfl⟩
theorem f15 (p : Params) : FnK (K p) 232 xQ ft15 := ⟨by kernel_rfl, by kernel_rfl, by kernel_rfl, by kernel_rfl, by kernel_rfl, by kernel_rfl, by kernel_rfl, by kernel_rfl, by kernel_rfl, jd fun a b => by kernel_rfl⟩
theorem f16 (p : Params) : FnK (K p) 253 yJ ft16 := ⟨by kernel_rfl, by kernel_rfl, by kernel_rfl, by kernel_rfl, by kernel_rfl, by kernel_rfl, by kernel_rfl, by kernel_rfl, by kernel_rfl, qz fun a b c => by kernel_rfl⟩
theorem f17 (p : Params) : FnK (K p) 260 xY ft17 := ⟨by kernel_rfl, by kernel_rfl, by kernel_rfl, by kernel_rfl, by kernel_rfl, by kernel_rfl, by kernel_rfl, by kernel_rfl, by kernel_rfl, qz fun a b c => by kernel_rfl⟩
theorem f18 (p : Params) : FnK (K p) 267 yi ft18 := ⟨by kernel_rfl, by kernel_rfl, by kernel_rfl, by kernel_rfl, by kernel_rfl, by kernel_rfl, by kernel_rfl, by kernel_rfl, by kernel_rfl, cY fun a => by kernel_rfl⟩
theorem f19 (p : Params) : FnK (K p) 274 xH ft19 := ⟨by kernel_rfl, by kernel_rfl, by kernel_rfl, by kernel_rfl, by kernel_rfl, by kernel_rfl, by kernel_rfl, by kernel_rfl, by kernel_rfl, cY fun a => by kernel_rfl⟩
theorem f20 (p : Params) : FnK (K p) 281 Cb ft20 := ⟨by kernel_rfl, by kernel_rfl, by kernel_rfl, by kernel_rfl, by kernel_rfl, by kernel_rfl, by kernel_rfl, by kernel_rfl, by kernel_rfl, cY fun a => by kernel_rfl⟩
theorem f21 (p : Params) : FnK (K p) 296 xj ft21 := ⟨by kernel_rfl, by kernel_rfl, by kernel_rfl, by kernel_rfl, by kernel_rfl, by kernel_rfl, by kernel_rfl, by kernel_rfl, by kernel_rfl, cY fun a => by kernel_rfl⟩
theorem f22 (p : Params) : FnK (K p) 303 xl ft22 := ⟨by kernel_rfl, by kernel_rfl, by kernel_rfl, by kernel_rfl, by kernel_rfl, by kernel_rfl, by kernel_rfl, by kernel_rfl, by kernel_rfl, cY fun a => by kernel_rfl⟩
theorem f23 (p : Params) : FnK (K p) 317 xD ft23 := ⟨by kernel_rfl, by kernel_rfl, by kernel_rfl, by kernel_rfl, by kernel_rfl, by kernel_rfl, by kernel_rfl, by kernel_rfl, by kernel_rfl, wN fun a b c d => by kernel_rfl⟩
theorem f24 (p : Params) : FnK (K p) 324 kt ft24 := ⟨by kernel_rfl, by kernel_rfl, by kernel_rfl, by kernel_rfl, by kernel_rfl, by kernel_rfl, by kernel_rfl, by kernel_rfl, by kernel_rfl, jd fun a b => by kernel_rfl⟩
theorem f25 (p : Params) : FnK (K p) 331 xA ft25 := ⟨by kernel_rfl, by kernel_rfl, by kernel_rfl, by kernel_rfl, by kernel_rfl, by kernel_rfl, by kernel_rfl, by kernel_rfl, by kernel_rfl, cY fun a => by kernel_rfl⟩
theorem f26 (p : Params) : FnK (K p) 338 ym ft26 := ⟨by kernel_rfl, by kernel_rfl, by kernel_rfl, by kernel_rfl, by kernel_rfl, by kernel_rfl, by kernel_rfl, by kernel_rfl, by kernel_rfl, cY fun a => by kernel_rfl⟩
theorem f27 (p : Params) : FnK (K p) 345 xw ft27 := ⟨by kernel_rfl, by kernel_rfl, by kernel_rfl, by kernel_rfl, by kernel_rfl, by kernel_rfl, by kernel_rfl, by kernel_rfl, by kernel_rfl, cY fun a => by kernel_rfl⟩
theorem f28 (p : Params) : FnK (K p) 350 yf ft28 := ⟨by kernel_rfl, by kernel_rfl, by kernel_rfl, by kernel_rfl, by kernel_rfl, by kernel_rfl, by kernel_rfl, by kernel_rfl, by kernel_rfl, cY fun a => by kernel_rfl⟩
theorem f29 (p : Params) : FnK (K p) 357 Cf ft29 := ⟨by kernel_rfl, by kernel_rfl, by kernel_rfl, by kernel_rfl, by kernel_rfl, by kernel_rfl, by kernel_rfl, by kernel_rfl, by kernel_rfl, cY fun a => by kernel_rfl⟩
theorem f30 (p : Params) : FnK (K p) 364 wY ft30 := ⟨by kernel_rfl, by kernel_rfl, by kernel_rfl, by kernel_rfl, by kernel_rfl, by kernel_rfl, by kernel_rfl, by kernel_rfl, by kernel_rfl, cY fun a => by kernel_rfl⟩
theorem f31 (p : Params) : FnK (K p) 378 yr ft31 := ⟨by kernel_rfl, by kernel_rfl, by kernel_rfl, by kernel_rfl, by kernel_rfl, by kernel_rfl, by kernel_rfl, by kernel_rfl, by kernel_rfl, jd fun a b => by kernel_rfl⟩
theorem f32 (p : Params) : FnK (K p) 385 yy ft32 := ⟨by kernel_rfl, by kernel_rfl, by kernel_rfl, by kernel_rfl, by kernel_rfl, by kernel_rfl, by kernel_rfl, by kernel_rfl, by kernel_rfl, jd fun a b => by kernel_rfl⟩
theorem f33 (p : Params) : FnK (K p) 399 fn33 ft33 := ⟨by kernel_rfl, by kernel_rfl, by kernel_rfl, by kernel_rfl, by kernel_rfl, by kernel_rfl, by kernel_rfl, by kernel_rfl, by kernel_rfl, cY fun a => by kernel_rfl⟩
theorem f34 (p : Params) : FnK (K p) 404 xB ft34 := ⟨by kernel_rfl, by kernel_rfl, by kernel_rfl, by kernel_rfl, by kernel_rfl, by kernel_rfl, by kernel_rfl, by kernel_rfl, by kernel_rfl, qz fun a b c => by kernel_rfl⟩
theorem f35 (p : Params) : FnK (K p) 411 yu ft35 := ⟨by kernel_rfl, by kernel_rfl, by kernel_rfl, by kernel_rfl, by kernel_rfl, by kernel_rfl, by kernel_rfl, by kernel_rfl, by kernel_rfl, jd fun a b => by kernel_rfl⟩
theorem f36 (p : Params) : FnK (K p) 418 xd ft36 := ⟨by kernel_rfl, by kernel_rfl, by kernel_rfl, by kernel_rfl, by kernel_rfl, by kernel_rfl, by kernel_rfl, by kernel_rfl, by kernel_rfl, jd fun a b => by kernel_rfl⟩
theorem f37 (p : Params) : FnK (K p) 425 yk ft37 := ⟨by kernel_rfl, by kernel_rfl, by kernel_rfl, by kernel_rfl, by kernel_rfl, by kernel_rfl, by kernel_rfl, by kernel_rfl, by kernel_rfl, qz fun a b c => by kernel_rfl⟩
theorem f38 (p : Params) : FnK (K p) 430 fn38 ft38 := ⟨by kernel_rfl, by kernel_rfl, by kernel_rfl, by kernel_rfl, by kernel_rfl, by kernel_rfl, by kernel_rfl, by kernel_rfl, by kernel_rfl, BG fun a b c d e => by kernel_rfl⟩
theorem f39 (p : Params) : FnK (K p) 437 fn39 ft39 := ⟨by kernel_rfl, by kernel_rfl, by kernel_rfl, by kernel_rfl, by kernel_rfl, by kernel_rfl, by kernel_rfl, by kernel_rfl, by kernel_rfl, wN fun a b c d => by kernel_rfl⟩
theorem f40 (p : Params) : FnK (K p) 442 fn40 ft40 := ⟨by kernel_rfl, by kernel_rfl, by kernel_rfl, by kernel_rfl, by kernel_rfl, by kernel_rfl, by kernel_rfl, by kernel_rfl, by kernel_rfl, cY fun a => by kernel_rfl⟩
theorem x0 (p : Params) : ExcK (K p) 31 := ⟨by kernel_rfl, ⟨by kernel_rfl, by kernel_rfl⟩, by kernel_rfl, .inl (by kernel_rfl), by kernel_rfl, by kernel_rfl, by kernel_rfl⟩
theorem x1 (p : Params) : ExcK (K p) 44 := ⟨by kernel_rfl, ⟨by kernel_rfl, by kernel_rfl⟩, by kernel_rfl, .inr ⟨31, by kernel_rfl, by kernel_rfl, ⟨by kernel_rfl, by kernel_rfl⟩, by kernel_rfl⟩, by kernel_rfl, by kernel_rfl, by kernel_rfl⟩
theorem x2 (p : Params) : ExcK (K p) 56 := ⟨by kernel_rfl, ⟨by kernel_rfl, by kernel_rfl⟩, by kernel_rfl, .inr ⟨31, by kernel_rfl, by kernel_rfl, ⟨by kernel_rfl, by kernel_rfl⟩, by kernel_rfl⟩, by kernel_rfl, by kernel_rfl, by kernel_rfl⟩
theorem x3 (p : Params) : ExcK (K p) 68 := ⟨by kernel_rfl, ⟨by kernel_rfl, by kernel_rfl⟩, by kernel_rfl, .inr ⟨31, by kernel_rfl, by kernel_rfl, ⟨by kernel_rfl, by kernel_rfl⟩, by kernel_rfl⟩, by kernel_rfl, by kernel_rfl, by kernel_rfl⟩
theorem x4 (p : Params) : ExcK (K p) 80 := ⟨by kernel_rfl, ⟨by kernel_rfl, by kernel_rfl⟩, by kernel_rfl, .inr ⟨31, by kernel_rfl, by kernel_rfl, ⟨by kernel_rfl, by kernel_rfl⟩, by kernel_rfl⟩, by kernel_rfl, by kernel_rfl, by kernel_rfl⟩
theorem x5 (p : Params) : ExcK (K p) 92 := ⟨by kernel_rfl, ⟨by kernel_rfl, by kernel_rfl⟩, by kernel_rfl, .inr ⟨31, by kernel_rfl, by kernel_rfl, ⟨by kernel_rfl, by kernel_rfl⟩, by kernel_rfl⟩, by kernel_rfl, by kernel_rfl, by kernel_rfl⟩
theorem x6 (p : Params) : ExcK (K p) 104 := ⟨by kernel_rfl, ⟨by kernel_rfl, by kernel_rfl⟩, by kernel_rfl, .inr ⟨31, by kernel_rfl, by kernel_rfl, ⟨by kernel_rfl, by kernel_rfl⟩, by kernel_rfl⟩, by kernel_rfl, by kernel_rfl, by kernel_rfl⟩
theorem c7 (p : Params) : ClsK (K p) tabs fa 193 ⟨some 7, [(31, 8), (23, 9), (21, 10), (24, 11)], []⟩ := ⟨by kernel_rfl, ⟨by kernel_rfl, by kernel_rfl⟩, by kernel_rfl, by kernel_rfl, by kernel_rfl, fun f h => by cases h; kernel_rfl, by kernel_rfl, by kernel_rfl⟩
theorem c8 (p : Params) : ClsK (K p) tabs fa 235 ⟨some 12, [(20, 13), (22, 14), (18, 15)], []⟩ := ⟨by kernel_rfl, ⟨by kernel_rfl, by kernel_rfl⟩, by kernel_rfl, by kernel_rfl, by kernel_rfl, fun f h => by cases h; kernel_rfl, by kernel_rfl, by kernel_rfl⟩
theorem c9 (p : Params) : ClsK (K p) tabs fa 284 ⟨some 16, [(32, 17), (25, 18), (19, 19), (33, 20)], []⟩ := ⟨by kernel_rfl, ⟨by kernel_rfl, by kernel_rfl⟩, by kernel_rfl, by kernel_rfl, by kernel_rfl, fun f h => by cases h; kernel_rfl, by kernel_rfl, by kernel_rfl⟩
theorem c10 (p : Params) : ClsK (K p) tabs fa 367 ⟨some 23, [(26, 24), (29, 25), (17, 26), (27, 27), (28, 28), (34, 29), (30, 30)], []⟩ := ⟨by kernel_rfl, ⟨by kernel_rfl, by kernel_rfl⟩, by kernel_rfl, by kernel_rfl, by kernel_rfl, fun f h => by cases h; kernel_rfl, by kernel_rfl, by kernel_rfl⟩
theorem kd (p : Params) : KDat (K p) tabs prg fa ca where
  g := ⟨by kernel_rfl, by kernel_rfl⟩
  fnN := by kernel_rfl
  clsN := by kernel_rfl
  bltN := by kernel_rfl
  inj := by decide +kernel
  ne := by decide +kernel
  objN := by kernel_rfl
  lens := ⟨rfl, rfl, rfl, rfl⟩
  ics := AllI.at0 (P := fun c (ci : ClsI) => ci.init ≠ Option.none → ClsK (K p) tabs fa (ca.getD c 0) ci) (l := clss) ⟨(fun h => absurd rfl h), (fun h => absurd rfl h), (fun h => absurd rfl h), (fun h => absurd rfl h), (fun h => absurd rfl h), (fun h => absurd rfl h), (fun h => absurd rfl h), fun _ => c7 p, fun _ => c8 p, fun _ => c9 p, fun _ => c10 p, trivial⟩
  xcs := AllI.at0 (P := fun c (ci : ClsI) => ci.init = Option.none → ExcK (K p) (ca.getD c 0)) (l := clss) ⟨fun _ => x0 p, fun _ => x1 p, fun _ => x2 p, fun _ => x3 p, fun _ => x4 p, fun _ => x5 p, fun _ => x6 p, (fun h => by cases h), (fun h => by cases h), (fun h => by cases h), (fun h => by cases h), trivial⟩
  xps := by kernel_rfl
  fns := fun f fi ft h1 h2 => AllI.at0 (P := fun f fi => ∀ ft, tabs.fts[f]? = some ft → FnK (K p) (fa.getD f 0) fi ft) (l := prg.fns) ⟨fun ft h => by cases h; exact f0 p, fun ft h => by cases h; exact f1 p, fun ft h => by cases h; exact f2 p, fun ft h => by cases h; exact f3 p, fun ft h => by cases h; exact f4 p, fun ft h => by cases h; exact f5 p, fun ft h => by cases h; exact f6 p, fun ft h => by cases h; exact f7 p, fun ft h => by cases h; exact f8 p, fun ft h => by cases h; exact f9 p, fun ft h => by cases h; exact f10 p, fun ft h => by cases h; exact f11 p, fun ft h => by cases h; exact f12 p, fun ft h => by cases h; exact f13 p, fun ft h => by cases h; exact f14 p, fun ft h => by cases h; exact f15 p, fun ft h => by cases h; exact f16 p, fun ft h => by cases h; exact f17 p, fun ft h => by cases h; exact f18 p, fun ft h => by cases h; exact f19 p, fun ft h => by cases h; exact f20 p, fun ft h => by cases h; exact f21 p, fun ft h => by cases h; exact f22 p, fun ft h => by cases h; exact f23 p, fun ft h => by cases h; exact f24 p, fun ft h => by cases h; exact f25 p, fun ft h => by cases h; exact f26 p, fun ft h => by cases h; exact f27 p, fun ft h => by cases h; exact f28 p, fun ft h => by cases h; exact f29 p, fun ft h => by cases h; exact f30 p, fun ft h => by cases h; exact f31 p, fun ft h => by cases h; exact f32 p, fun ft h => by cases h; exact f33 p, fun ft h => by cases h; exact f34 p, fun ft h => by cases h; exact f35 p, fun ft h => by cases h; exact f36 p, fun ft h => by cases h; exact f37 p, fun ft h => by cases h; exact f38 p, fun ft h => by cases h; exact f39 p, fun ft h => by cases h; exact f40 p, trivial⟩ f fi h1 ft h2
  sh := by kernel_rfl
theorem bs (C : Cx) (X : CxOk C tabs prg) (Y : GlobOk C globs ∧ GDs C gds ∧ GVs C gvs) (F : Calls) (d : Nat) (hF : bZ C prg d F) (f : Nat) (fi : FnI) (ft : FnT) (h1 : prg.fns[f]? = some fi) (h2 : tabs.fts[f]? = some ft) : BothB C d ft.sc ft.nms fi.quiet (fi.body F) ft.body :=
  AllI.at0 (P := fun f fi => ∀ ft, tabs.fts[f]? = some ft → BothB C d ft.sc ft.nms fi.quiet (fi.body F) ft.body) (l := prg.fns) ⟨fun ft h => by cases h; exact b0 X Y.1 Y.2.1 Y.2.2 hF, fun ft h => by cases h; exact b1 X Y.1 Y.2.1 Y.2.2 hF, fun ft h => by cases h; exact b2 X Y.1 Y.2.1 Y.2.2 hF, fun ft h => by cases h; exact b3 X Y.1 Y.2.1 Y.2.2 hF, fun ft h => by cases h; exact b4 X Y.1 Y.2.1 Y.2.2 hF, fun ft h => by cases h; exact b5 X Y.1 Y.2.1 Y.2.2 hF, fun ft h => by cases h; exact b6 X Y.1 Y.2.1 Y.2.2 hF, fun ft h => by cases h; exact b7 X Y.1 Y.2.1 Y.2.2 hF, fun ft h => by cases h; exact b8 X Y.1 Y.2.1 Y.2.2 hF, fun ft h => by cases h; exact b9 X Y.1 Y.2.1 Y.2.2 hF, fun ft h => by cases h; exact b10 X Y.1 Y.2.1 Y.2.2 hF, fun ft h => by cases h; exact b11 X Y.1 Y.2.1 Y.2.2 hF, fun ft h => by cases h; exact b12 X Y.1 Y.2.1 Y.2.2 hF, fun ft h => by cases h; exact b13 X Y.1 Y.2.1 Y.2.2 hF, fun ft h => by cases h; exact b14 X Y.1 Y.2.1 Y.2.2 hF, fun ft h => by cases h; exact b15 X Y.1 Y.2.1 Y.2.2 hF, fun ft h => by cases h; exact b16 X Y.1 Y.2.1 Y.2.2 hF, fun ft h => by cases h; exact b17 X Y.1 Y.2.1 Y.2.2 hF, fun ft h => by cases h; exact b18 X Y.1 Y.2.1 Y.2.2 hF, fun ft h => by cases h; exact b19 X Y.1 Y.2.1 Y.2.2 hF, fun ft h => by cases h; exact b20 X Y.1 Y.2.1 Y.2.2 hF, fun ft h => by cases h; exact b21 X Y.1 Y.2.1 Y.2.2 hF, fun ft h => by cases h; exact b22 X Y.1 Y.2.1 Y.2.2 hF, fun ft h => by cases h; exact b23 X Y.1 Y.2.1 Y.2.2 hF, fun ft h => by cases h; exact b24 X Y.1 Y.2.1 Y.2.2 hF, fun ft h => by cases h; exact b25 X Y.1 Y.2.1 Y.2.2 hF, fun ft h => by cases h; exact b26 X Y.1 Y.2.1 Y.2.2 hF, fun ft h => by cases h; exact b27 X Y.1 Y.2.1 Y.2.2 hF, fun ft h => by cases h; exact b28 X Y.1 Y.2.1 Y.2.2 hF, fun ft h => by cases h; exact b29 X Y.1 Y.2.1 Y.2.2 hF, fun ft h => by cases h; exact b30 X Y.1 Y.2.1 Y.2.2 hF, fun ft h => by cases h; exact b31 X Y.1 Y.2.1 Y.2.2 hF, fun ft h => by cases h; exact b32 X Y.1 Y.2.1 Y.2.2 hF, fun ft h => by cases h; exact b33 X Y.1 Y.2.1 Y.2.2 hF, fun ft h => by cases h; exact b34 X Y.1 Y.2.1 Y.2.2 hF, fun ft h => by cases h; exact b35 X Y.1 Y.2.1 Y.2.2 hF, fun ft h => by cases h; exact b36 X Y.1 Y.2.1 Y.2.2 hF, fun ft h => by cases h; exact b37 X Y.1 Y.2.1 Y.2.2 hF, fun ft h => by cases h; exact b38 X Y.1 Y.2.1 Y.2.2 hF, fun ft h => by cases h; exact b39 X Y.1 Y.2.1 Y.2.2 hF, fun ft h => by cases h; exact b40 X Y.1 Y.2.1 Y.2.2 hF, trivial⟩ f fi h1 ft h2
end Ap.L08
end
section
open PySem PySem.W PyProof.Rows
namespace Ap.L08
theorem vI (hw : ∀ ns : List Int, ns.length ≤ 63 → wpF prg 14 40 [.ilist (ns.map .int)] (fun _ => Option.none) (fun v _ => v = .bool true) fun _ _ => False) : PySem.Challenge.rw_uf020020_08.Holds := hd (by
  intro w s₀ s₁ mg mb G Y fa' o pm cd doc dV kV ho hd hcd hD hmg hg args vals as hpre hlay hrd hwl hlo
  have KX := kIn_of Y
  refine Ground.open G ?_
  intro T B D TE TW
  clear B D TE TW
  wrow_args hpre hlay hrd hwl hlo
  refine enter_call ?_
  w_top on
  rename_i ns _ _ _ _ _ _ _ l _ _ _ _ hW _ _ _ hc _
  have gv : ∀ x, mg x = nsFind (esK (K w.params) mainGlobals) x := fun x => um T.g ((kd w.params).g.ns KX) x
  have hfa : fa' = fa.getD 40 0 := by
    have h1 := gv (Str.ofString "law")
    have h2 : nsFind (esK (K w.params) mainGlobals) (Str.ofString "law") = some (.ref 442) := by kernel_rfl
    rw [← dkN, hmg, dkN, h2] at h1
    cases h1; rfl
  subst hfa
  try rw [uW] at hW
  have hY : GlobOk (nM PySem.Challenge.pw_uf020020_08 w s₁.heap mg mb tabs prg fa ca) globs ∧ GDs (nM PySem.Challenge.pw_uf020020_08 w s₁.heap mg mb tabs prg fa ca) gds ∧ GVs (nM PySem.Challenge.pw_uf020020_08 w s₁.heap mg mb tabs prg fa ca) gvs := ⟨(GlobOk.cons ((gv (Str.ofString "MOST_WINDOW")).trans (by kernel_rfl)) (.int _ 312) (GlobOk.cons ((gv (Str.ofString "MOST_BACK")).trans (by kernel_rfl)) (.int _ 314) (GlobOk.cons ((gv (Str.ofString "MOST_RING")).trans (by kernel_rfl)) (.int _ 316) (GlobOk.cons ((gv (Str.ofString "MOST_TEXTS")).trans (by kernel_rfl)) (.int _ 318) (GlobOk.cons ((gv (Str.ofString "MOST_SIGNS")).trans (by kernel_rfl)) (.int _ 320) (GlobOk.cons ((gv (Str.ofString "WORDS")).trans (by kernel_rfl)) (.tup (a := 289) ⟨Nat.le_of_ble_eq_true rfl, 0, KX 289 (yA _ 0) (by kernel_rfl)⟩ id (.cons (.str _ 558 (by decide +kernel)) (.cons (.str _ 559 (by decide +kernel)) (.cons (.str _ 560 (by decide +kernel)) .nil)))) (GlobOk.cons ((gv (Str.ofString "MOST_NUMBER")).trans (by kernel_rfl)) (.int _ 562) GlobOk.nil))))))), GDs.nil, GVs.nil⟩
  refine codeAny_mono (vp KX T.g T.b T.nolimit T.builtins (kd w.params) (R := fun C => GlobOk C globs ∧ GDs C gds ∧ GVs C gvs) hY bs hg (ns := ns) hW (by omega) (d := 14) (by decide) (hw ns (by omega))) ?_
  rintro r s' ⟨rfl, h1, h2, h3⟩
  refine GoodW.toG ⟨.inl ⟨.bool true, .bool true, [], rfl, fun _ => rfl, .bool true, ?_, fun _ => ⟨.nil, fun a ha => nomatch ha⟩⟩, h1, h2, h3⟩
  first | kernel_rfl | with_unfolding_all rfl)
theorem holds : PySem.Challenge.rw_uf020020_08.Holds := vI fun ns hn => zI ns hn fun _ => rfl
end Ap.L08
end
set_option maxHeartbeats 4000000 in
theorem PySem.Challenge.cw_uf020020_08_holds : PySem.Challenge.rw_uf020020_08.Holds :=
  Ap.L08.holds
