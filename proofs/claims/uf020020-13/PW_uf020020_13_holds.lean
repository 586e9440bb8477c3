import PyProof.Rows.All
import Wide.All
import OpenK.AllK
import Wide.FinOn
import KE.KTryMore
import PyProof.ExcArgsOwn
import PyProof.ExcBaseAll.ValueError
import PyProof.ExcAttrAll.ValueError
import Wide.Well
import Wide.BridgeG
import KE.LcSums
import KE.KDictSum
import Wide.Txt2
import KE.KIntText
import OpenK.KTop
import PyProof.AutoSeq1
import PyProof.EqKinds
import PyProof.EqAt
import Lean
import PySem.Challenge.RW_uf020020_13
set_option Elab.async false
set_option maxRecDepth 100000
set_option maxHeartbeats 4000000
set_option linter.all false
section
set_option genSizeOf false
set_option genSizeOfSpec false
namespace Ap
open PySem
inductive AV where
  | none
  | bool (b : Bool)
  | int (i : Int)
  | str (s : Str)
  | tup (xs : List AV)
  | ilist (xs : List AV)
  | obj (a : Nat)
  | exn (c : Nat)
inductive AObj where
  | list (xs : List AV)
  | dictI (es : List (Int × AV))
  | dictS (es : List (Str × AV))
  | inst (c : Nat) (fs : List (Nat × AV))
noncomputable abbrev St := Nat → Option AObj
noncomputable abbrev Loc := List (Option AV)
noncomputable def upd (σ : St) (a : Nat) (o : AObj) : St := fun b => if b = a then some o else σ b
inductive Fl | next | ret (v : AV)
noncomputable abbrev PQ := AV → St → Prop
noncomputable abbrev PE := Nat → St → Prop
noncomputable abbrev QS := Fl → Loc → St → Prop
noncomputable abbrev ES := Nat → Loc → St → Prop
noncomputable abbrev Calls := Nat → List AV → St → PQ → PE → Prop
noncomputable abbrev WE := Loc → St → PQ → PE → Prop
noncomputable abbrev WL := Loc → St → (List AV → St → Prop) → PE → Prop
noncomputable abbrev WBl := Loc → St → (Bool → St → Prop) → PE → Prop
noncomputable abbrev WS := Loc → St → QS → ES → Prop
noncomputable abbrev WH := Nat → WS
structure FnI where
  quiet : Bool
  arity : Nat
  nloc : Nat
  body : Calls → WS
structure ClsI where
  init : Option Nat
  meths : List (Nat × Nat)
  sups : List Nat
structure Prg where
  fns : List FnI
  cls : List ClsI
  globs : List AV
noncomputable def co {κ : Type} [DecidableEq κ] (k : κ) (v : AV) (es : List (κ × AV)) : List (κ × AV) :=
  if es.any (fun e => e.1 = k) then es.map (fun e => if e.1 = k then (e.1, v) else e) else es ++ [(k, v)]
noncomputable def eY {κ : Type} [DecidableEq κ] (k : κ) (es : List (κ × AV)) : List (κ × AV) := es.filter fun e => decide (e.1 ≠ k)
noncomputable def aW {κ : Type} [DecidableEq κ] (es : List (κ × AV)) (k : κ) : Option AV := (es.find? fun e => e.1 = k).map (·.2)
noncomputable def jT {κ : Type} [DecidableEq κ] (es : List (κ × AV)) (k : κ) : Bool := (aW es k).isSome
noncomputable def cY (ρ : Loc) (x : Nat) (v : AV) : Loc := ρ.set x (some v)
noncomputable def fJ (ρ : Loc) (x : Nat) : Option AV := ρ.getD x Option.none
noncomputable def kh (Q : PQ) (σ : St) : Option AV → Prop
  | some v => Q v σ
  | Option.none => False
noncomputable def ac (i : Nat) : WE := fun ρ σ Q _ => kh Q σ (fJ ρ i)
noncomputable def vC (v : AV) : WE := fun _ σ Q _ => Q v σ
noncomputable def Cl (v : AV) (Q : List AV → St → Prop) : List AV → St → Prop := fun vs σ => Q (v :: vs) σ
noncomputable def Ca (es : WL) (ρ : Loc) (Q : List AV → St → Prop) (E : PE) : PQ := fun v σ => es ρ σ (Cl v Q) E
noncomputable def ar : WL := fun _ σ Q _ => Q [] σ
noncomputable def aa (e : WE) (es : WL) : WL := fun ρ σ Q E => e ρ σ (Ca es ρ Q E) E
noncomputable def Bz (Q : PQ) : List AV → St → Prop := fun vs σ => Q (.tup vs) σ
noncomputable def et (es : WL) : WE := fun ρ σ Q E => es ρ σ (Bz Q) E
noncomputable def mkL (own : Bool) (xs : List AV) (σ : St) (Q : PQ) : Prop :=
  match own with
  | true => ∀ a, σ a = Option.none → Q (.obj a) (upd σ a (.list xs))
  | false => Q (.ilist xs) σ
noncomputable def zE (own : Bool) (Q : PQ) : List AV → St → Prop := fun vs σ => mkL own vs σ Q
noncomputable def cU (own : Bool) (es : WL) : WE := fun ρ σ Q E => es ρ σ (zE own Q) E
noncomputable abbrev O2 := AV → AV → St → PQ → Prop
noncomputable def kO2 (f : O2) (va : AV) (Q : PQ) : PQ := fun vb σ => f va vb σ Q
noncomputable def kO1 (f : O2) (b : WE) (ρ : Loc) (Q : PQ) (E : PE) : PQ := fun va σ => b ρ σ (kO2 f va Q) E
noncomputable def vO2 (f : O2) (a b : WE) : WE := fun ρ σ Q E => a ρ σ (kO1 f b ρ Q E) E
noncomputable abbrev O1 := AV → St → PQ → Prop
noncomputable def kU (f : O1) (Q : PQ) : PQ := fun v σ => f v σ Q
noncomputable def vO1 (f : O1) (a : WE) : WE := fun ρ σ Q E => a ρ σ (kU f Q) E
noncomputable abbrev ON := List AV → St → PQ → Prop
noncomputable def kN (f : ON) (Q : PQ) : List AV → St → Prop := fun vs σ => f vs σ Q
noncomputable def vON (f : ON) (es : WL) : WE := fun ρ σ Q E => es ρ σ (kN f Q) E
noncomputable def onI (f : Int → St → PQ → Prop) : O1 := fun v σ Q => match v with | .int x => f x σ Q | _ => False
noncomputable def onB (f : Bool → St → PQ → Prop) : O1 := fun v σ Q => match v with | .bool x => f x σ Q | _ => False
noncomputable def zC : O1 := onI fun x σ Q => Q (.int (-x)) σ
noncomputable def eX : O1 := onB fun x σ Q => Q (.bool (!x)) σ
noncomputable def sM (Q : PQ) : Bool → St → Prop := fun b σ => Q (.bool b) σ
noncomputable def onT (R : Bool → St → Prop) : PQ := fun v σ => match v with | .bool b => R b σ | _ => False
noncomputable def cV (and : Bool) : WBl := fun _ σ Q _ => Q and σ
noncomputable def vU (r : WBl) (ρ : Loc) (Q : Bool → St → Prop) (E : PE) (b t : Bool) (σ : St) : Prop := match t with
  | true => r ρ σ Q E
  | false => Q b σ
noncomputable def kBl (and : Bool) (r : WBl) (ρ : Loc) (Q : Bool → St → Prop) (E : PE) : Bool → St → Prop := fun b σ => vU r ρ Q E b (b == and) σ
noncomputable def aV (and : Bool) (e : WE) (r : WBl) : WBl := fun ρ σ Q E => e ρ σ (onT (kBl and r ρ Q E)) E
noncomputable def vBl (r : WBl) : WE := fun ρ σ Q E => r ρ σ (sM Q) E
noncomputable abbrev OC := AV → AV → St → (Bool → Prop) → Prop
noncomputable def bF : AV → WBl := fun _ _ σ Q _ => Q true σ
noncomputable def wv (vb : AV) (r : AV → WBl) (ρ : Loc) (Q : Bool → St → Prop) (E : PE) (σ : St) : Bool → Prop := fun t => match t with
  | false => Q false σ
  | true => r vb ρ σ Q E
noncomputable def Ck (va : AV) (f : OC) (r : AV → WBl) (ρ : Loc) (Q : Bool → St → Prop) (E : PE) : PQ := fun vb σ => f va vb σ (wv vb r ρ Q E σ)
noncomputable def aS (f : OC) (e : WE) (r : AV → WBl) : AV → WBl := fun va ρ σ Q E => e ρ σ (Ck va f r ρ Q E) E
noncomputable def Bw (c : AV → WBl) (ρ : Loc) (Q : PQ) (E : PE) : PQ := fun va σ => c va ρ σ (sM Q) E
noncomputable def bG (a : WE) (c : AV → WBl) : WE := fun ρ σ Q E => a ρ σ (Bw c ρ Q E) E
noncomputable def brE (a b : WE) (ρ : Loc) (Q : PQ) (E : PE) : Bool → St → Prop := fun t σ => match t with
  | true => a ρ σ Q E
  | false => b ρ σ Q E
noncomputable def BM (c a b : WE) : WE := fun ρ σ Q E => c ρ σ (onT (brE a b ρ Q E)) E
noncomputable def yQ (F : Calls) (f : Nat) (Q : PQ) (E : PE) : List AV → St → Prop := fun vs σ => F f vs σ Q E
noncomputable def aZ (F : Calls) (f : Nat) (es : WL) : WE := fun ρ σ Q E => es ρ σ (yQ F f Q E) E
noncomputable def vg (a : Nat) (Q : PQ) : PQ := fun r σ => match r with | .none => Q (.obj a) σ | _ => False
noncomputable def BG (F : Calls) (c f : Nat) (Q : PQ) (E : PE) : List AV → St → Prop := fun vs σ => ∀ a, σ a = Option.none → F f (.obj a :: vs) (upd σ a (.inst c [])) (vg a Q) E
noncomputable def tG (F : Calls) (c f : Nat) (es : WL) : WE := fun ρ σ Q E => es ρ σ (BG F c f Q E) E
noncomputable def uF (F : Calls) (f a : Nat) (Q : PQ) (E : PE) : List AV → St → Prop := fun vs σ => F f (.obj a :: vs) σ Q E
noncomputable def xY (F : Calls) (c m f : Nat) (es : WL) (ρ : Loc) (Q : PQ) (E : PE) : PQ := fun v σ => ∃ a fs, v = .obj a ∧ σ a = some (.inst c fs) ∧ aW fs m = Option.none ∧ es ρ σ (uF F f a Q E) E
noncomputable def fQ (F : Calls) (c m f : Nat) (e : WE) (es : WL) : WE := fun ρ σ Q E => e ρ σ (xY F c m f es ρ Q E) E
noncomputable def bq (c f : Nat) : O1 := fun v σ Q => ∃ a fs u, v = .obj a ∧ σ a = some (.inst c fs) ∧ aW fs f = some u ∧ Q u σ
noncomputable def cq : AV → Bool
  | .obj _ => false
  | .exn _ => false
  | _ => true
inductive Ty | int | bool | str | list | tuple
noncomputable def kn : Ty → AV → Bool
  | .int, .int _ => true
  | .int, .bool _ => true
  | .bool, .bool _ => true
  | .str, .str _ => true
  | .list, .ilist _ => true
  | .tuple, .tup _ => true
  | _, _ => false
noncomputable def ng (t : Ty) : O1 := fun v σ Q => cq v = true ∧ Q (.bool (kn t v)) σ
noncomputable def sQ (cs : List ClsI) (d : Nat) : O1 := fun v σ Q => ∃ c ci, v = .exn c ∧ cs[c]? = some ci ∧ Q (.bool (ci.sups.contains d)) σ
noncomputable def kE (E : ES) (ρ : Loc) : PE := fun c σ => E c ρ σ
noncomputable def CM (x : Nat) (ρ : Loc) (Q : QS) : PQ := fun v σ => Q .next (cY ρ x v) σ
noncomputable def aw (x : Nat) (e : WE) : WS := fun ρ σ Q E => e ρ σ (CM x ρ Q) (kE E ρ)
noncomputable def BJ (c f : Nat) (v : AV) (ρ : Loc) (Q : QS) : PQ := fun u σ => ∃ a fs, u = .obj a ∧ σ a = some (.inst c fs) ∧ fs.length < 100 ∧ Q .next ρ (upd σ a (.inst c (co f v fs)))
noncomputable def CN (o : WE) (c f : Nat) (ρ : Loc) (Q : QS) (E : ES) : PQ := fun v σ => o ρ σ (BJ c f v ρ Q) (kE E ρ)
noncomputable def bB (o : WE) (c f : Nat) (e : WE) : WS := fun ρ σ Q E => e ρ σ (CN o c f ρ Q E) (kE E ρ)
noncomputable def Cg (ρ : Loc) (Q : QS) : PQ := fun _ σ => Q .next ρ σ
noncomputable def cM (e : WE) : WS := fun ρ σ Q E => e ρ σ (Cg ρ Q) (kE E ρ)
noncomputable def BS (ρ : Loc) (Q : QS) : PQ := fun v σ => Q (.ret v) ρ σ
noncomputable def bP (e : WE) : WS := fun ρ σ Q E => e ρ σ (BS ρ Q) (kE E ρ)
noncomputable def brS (a b : WS) (ρ : Loc) (Q : QS) (E : ES) : Bool → St → Prop := fun t σ => match t with
  | true => a ρ σ Q E
  | false => b ρ σ Q E
noncomputable def bY (c : WE) (a b : WS) : WS := fun ρ σ Q E => c ρ σ (onT (brS a b ρ Q E)) (kE E ρ)
noncomputable def vL (r : WS) (Q : QS) (E : ES) : QS := fun fl ρ σ => match fl with
  | .next => r ρ σ Q E
  | .ret v => Q (.ret v) ρ σ
noncomputable def ay : WS := fun ρ σ Q _ => Q .next ρ σ
noncomputable def ad (s r : WS) : WS := fun ρ σ Q E => s ρ σ (vL r Q E) E
noncomputable def dW (c : Nat) : WS := fun ρ σ _ E => E c ρ σ
noncomputable def kH (Q : QS) : QS := fun fl _ σ => match fl with
  | .ret v => Q (.ret v) [] σ
  | .next => False
noncomputable def zc : ES := fun _ _ _ => False
noncomputable def yr : WH := fun c ρ σ _ E => E c ρ σ
noncomputable def brH (c : Nat) (x : Nat) (b : WS) (r : WH) (ρ : Loc) (σ : St) (Q : QS) (E : ES) : Bool → Prop := fun t => match t with
  | true => b (cY ρ x (.exn c)) σ (kH Q) zc
  | false => r c ρ σ Q E
noncomputable def xE (cs : List ClsI) (d x : Nat) (b : WS) (r : WH) : WH := fun c ρ σ Q E => ∃ ci, cs[c]? = some ci ∧ brH c x b r ρ σ Q E (ci.sups.contains d)
noncomputable def BW (h : WH) (Q : QS) (E : ES) : ES := fun c ρ σ => h c ρ σ Q E
noncomputable def wt (b : WS) (h : WH) : WS := fun ρ σ Q E => b ρ σ Q (BW h Q E)
/- loops over the items xs; G must hold all along -/
noncomputable def kFL (go : Loc → St → QS → Prop) (Q : QS) : QS := fun fl ρ σ => match fl with
  | .next => go ρ σ Q
  | .ret v => Q (.ret v) ρ σ
noncomputable def forL (G : St → Prop) (B : AV → Loc → St → QS → Prop) : List AV → Loc → St → QS → Prop
  | [], ρ, σ, Q => G σ ∧ Q .next ρ σ
  | x :: xs, ρ, σ, Q => G σ ∧ B x ρ σ (kFL (forL G B xs) Q)
noncomputable def dm (σ : St) : AV → Option (List AV)
  | .ilist xs => some xs
  | .obj a => match σ a with
    | some (.list xs) => some xs
    | _ => Option.none
  | _ => Option.none
noncomputable def im : AV → List AV → St → Prop
  | .obj a, xs, σ => σ a = some (.list xs)
  | _, _, _ => True
noncomputable def nh (x : Nat) (body : WS) (E : ES) : AV → Loc → St → QS → Prop := fun v ρ σ R => body (cY ρ x v) σ R E
noncomputable def ze (x : Nat) (body : WS) (ρ : Loc) (Q : QS) (E : ES) : PQ := fun v σ => ∃ xs, dm σ v = some xs ∧ forL (im v xs) (nh x body E) xs ρ σ Q
noncomputable def yg (x : Nat) (e : WE) (body : WS) : WS := fun ρ σ Q E => e ρ σ (ze x body ρ Q E) (kE E ρ)
noncomputable def kFn (Q : PQ) : QS := fun fl _ σ => match fl with
  | .ret v => Q v σ
  | .next => Q .none σ
noncomputable def eFn (E : PE) : ES := fun c _ σ => E c σ
noncomputable def wpF (P : Prg) : Nat → Calls
  | 0 => fun _ _ _ _ _ => False
  | d + 1 => fun f vs σ Q E => ∃ fd, P.fns[f]? = some fd ∧ vs.length = fd.arity ∧ fd.body (wpF P d) (vs.map some ++ List.replicate (fd.nloc - fd.arity) Option.none) σ (kFn Q) (eFn E)
end Ap
end
section
set_option genSizeOf false
set_option genSizeOfSpec false
namespace Ap
open PySem PySem.Calls PyProof.Rows
structure Cx where
  prog : Program
  w : World
  base : Heap
  clsA : Nat → Addr
  fnA : Nat → Addr
  nm : Nat → Str
  mg : Str → Option Value
  mb : Str → Option Value
  ics : List Nat
  xcs : List Nat
noncomputable abbrev rV (vs : List Value) (n : Nat) : Obj := { cls := .type "list", data := .seq vs.toArray n }
noncomputable abbrev zU (vs : List Value) (n : Nat) : Obj := { cls := .type "tuple", data := .seq vs.toArray n }
noncomputable def IsL (h : Heap) (a : Addr) (vs : List Value) : Prop := vs.length ≤ 16777216 ∧ ∃ n, h.get? a = some (rV vs n)
noncomputable def IsT (h : Heap) (a : Addr) (vs : List Value) : Prop := vs.length ≤ 16777216 ∧ ∃ n, h.get? a = some (zU vs n)
theorem IsL.isList {h : Heap} {a : Addr} {vs : List Value} (x : IsL h a vs) : h.IsList a vs.toArray := by
  obtain ⟨_, n, e⟩ := x
  exact ⟨_, e, rfl, n, rfl⟩
theorem IsT.isTuple {h : Heap} {a : Addr} {vs : List Value} (x : IsT h a vs) : h.IsTuple a vs.toArray := by
  obtain ⟨_, n, e⟩ := x
  exact ⟨_, e, rfl, n, rfl⟩
mutual
inductive VR (C : Cx) (Z : Nat → Prop) (h : Heap) : AV → Value → Prop
  | none : VR C Z h .none .none
  | bool (b : Bool) : VR C Z h (.bool b) (.bool b)
  | int (i : Int) (t : Tok) : VR C Z h (.int i) (.int i t)
  | str (s : Str) (t : Tok) (ok : PyData.strOk s = true) : VR C Z h (.str s) (.str s t)
  | tup {a : Addr} {vs : List Value} {xs : List AV} (at_ : IsT h a vs) (off : ¬ Z a) (r : VRs C Z h xs vs) : VR C Z h (.tup xs) (.ref a)
  | ilist {a : Addr} {vs : List Value} {xs : List AV} (at_ : IsL h a vs) (off : ¬ Z a) (r : VRs C Z h xs vs) : VR C Z h (.ilist xs) (.ref a)
  | obj (a : Nat) : VR C Z h (.obj a) (.ref a)
  | exn {e : Addr} {o : Obj} {c : Nat} {vs : Array Value} (at_ : h.get? e = some o) (cls : o.cls = .ref (C.clsA c)) (dt : o.data = .fields vs) (dn : o.dict = Option.none) (cx : c ∈ C.xcs) (off : ¬ Z e) : VR C Z h (.exn c) (.ref e)
inductive VRs (C : Cx) (Z : Nat → Prop) (h : Heap) : List AV → List Value → Prop
  | nil : VRs C Z h [] []
  | cons {x : AV} {v : Value} {xs : List AV} {vs : List Value} (hd : VR C Z h x v) (tl : VRs C Z h xs vs) : VRs C Z h (x :: xs) (v :: vs)
end
noncomputable def Kp (Z : Nat → Prop) (h h' : Heap) : Prop := ∀ b o, h.get? b = some o → ¬ Z b → h'.get? b = some o
theorem IsT.kp {h h' : Heap} {Z : Nat → Prop} {a : Addr} {vs : List Value} (k : Kp Z h h') (n : ¬ Z a) (x : IsT h a vs) : IsT h' a vs := by
  obtain ⟨z, m, e⟩ := x
  exact ⟨z, m, k a _ e n⟩
theorem IsL.kp {h h' : Heap} {Z : Nat → Prop} {a : Addr} {vs : List Value} (k : Kp Z h h') (n : ¬ Z a) (x : IsL h a vs) : IsL h' a vs := by
  obtain ⟨z, m, e⟩ := x
  exact ⟨z, m, k a _ e n⟩
noncomputable def Zg (Z Z' : Nat → Prop) (h : Heap) : Prop := ∀ b, Z' b → Z b ∨ h.get? b = none
theorem Zg.not {Z Z' : Nat → Prop} {h : Heap} (g : Zg Z Z' h) {a : Addr} {o : Obj} (e : h.get? a = some o) (n : ¬ Z a) : ¬ Z' a := fun q => by
  rcases g a q with q | q
  · exact n q
  · rw [e] at q; cases q
theorem Zg.refl (Z : Nat → Prop) (h : Heap) : Zg Z Z h := fun _ q => .inl q
mutual
theorem VR.kp {C : Cx} {Z Z' : Nat → Prop} {h h' : Heap} (k : Kp Z h h') (g : Zg Z Z' h) {x : AV} {v : Value} (r : VR C Z h x v) : VR C Z' h' x v := by
  cases r with
  | none => exact .none
  | bool b => exact .bool b
  | int i t => exact .int i t
  | str s t ok => exact .str s t ok
  | tup at_ off r =>
    refine .tup (at_.kp k off) ?_ (VRs.kp k g r)
    obtain ⟨_, _, e⟩ := at_
    exact g.not e off
  | ilist at_ off r =>
    refine .ilist (at_.kp k off) ?_ (VRs.kp k g r)
    obtain ⟨_, _, e⟩ := at_
    exact g.not e off
  | obj a => exact .obj a
  | exn at_ cls dt dn cx off => exact .exn (k _ _ at_ off) cls dt dn cx (g.not at_ off)
theorem VRs.kp {C : Cx} {Z Z' : Nat → Prop} {h h' : Heap} (k : Kp Z h h') (g : Zg Z Z' h) {xs : List AV} {vs : List Value} (r : VRs C Z h xs vs) : VRs C Z' h' xs vs := by
  cases r with
  | nil => exact .nil
  | cons hd tl => exact .cons (VR.kp k g hd) (VRs.kp k g tl)
end
theorem VRs.length {C : Cx} {Z : Nat → Prop} {h : Heap} : ∀ {xs : List AV} {vs : List Value}, VRs C Z h xs vs → xs.length = vs.length := by
  intro xs
  induction xs with
  | nil => intro vs r; cases r; rfl
  | cons x xs ih => intro vs r; cases r with | cons hd tl => exact congrArg Nat.succ (ih tl)
theorem VRs.append {C : Cx} {Z : Nat → Prop} {h : Heap} {ys : List AV} {us : List Value} (r : VRs C Z h ys us) : ∀ {xs : List AV} {vs : List Value}, VRs C Z h xs vs → VRs C Z h (xs ++ ys) (vs ++ us) := by
  intro xs
  induction xs with
  | nil => intro vs q; cases q; exact r
  | cons x xs ih => intro vs q; cases q with | cons hd tl => exact .cons hd (ih tl)
theorem VRs.get {C : Cx} {Z : Nat → Prop} {h : Heap} : ∀ {xs : List AV} {vs : List Value}, VRs C Z h xs vs → ∀ (i : Nat) (x : AV), xs[i]? = some x → ∃ v, vs[i]? = some v ∧ VR C Z h x v := by
  intro xs
  induction xs with
  | nil => intro vs r i x e; cases e
  | cons y xs ih =>
    intro vs r i x e
    cases r with | cons hd tl =>
    cases i with
    | zero => cases e; exact ⟨_, rfl, hd⟩
    | succ i => exact ih tl i x e
noncomputable def FMap (C : Cx) (Z : Nat → Prop) (h : Heap) (fs : List (Nat × AV)) (mA : Str → Option Value) : Prop :=
  (∀ f v, aW fs f = some v → ∃ u, mA (C.nm f) = some u ∧ VR C Z h v u) ∧ ∀ x, mA x ≠ Option.none → x ∈ fs.map fun p => C.nm p.1
theorem FMap.kp {C : Cx} {Z Z' : Nat → Prop} {h h' : Heap} (k : Kp Z h h') (g : Zg Z Z' h) {fs : List (Nat × AV)} {mA : Str → Option Value} (x : FMap C Z h fs mA) : FMap C Z' h' fs mA := by
  refine ⟨fun f v e => ?_, x.2⟩
  obtain ⟨u, e', r⟩ := x.1 f v e
  exact ⟨u, e', r.kp k g⟩
noncomputable def ORep (C : Cx) (Z : Nat → Prop) (ow : Nat → Option Nat) (h : Heap) (a : Addr) : AObj → Prop
  | .list xs => ∃ vs, IsL h a vs ∧ VRs C Z h xs vs
  | .dictI es => ∃ kvs, h.DictOf (intKind C.prog C.w) a kvs ∧ (a == sysModules) = false ∧ kvs.map (·.1) = es.map (·.1) ∧ VRs C Z h (es.map (·.2)) (kvs.map (·.2))
  | .dictS es => ∃ kvs, h.DictOf (strKind C.prog C.w) a kvs ∧ (a == sysModules) = false ∧ kvs.map (·.1) = es.map (·.1) ∧ VRs C Z h (es.map (·.2)) (kvs.map (·.2))
  | .inst c fs => ∃ o dx mA, h.get? a = some o ∧ o.cls = .ref (C.clsA c) ∧ (∀ k, o.data ≠ .cls k) ∧ o.dict = some dx ∧ dx ≠ a ∧ ow dx = some a ∧ h.Ns1 dx mA ∧ (c ∈ C.ics ∧ fs.length ≤ 1000) ∧ FMap C Z h fs mA
noncomputable def Own (σ : St) (ow : Nat → Option Nat) (b : Nat) : Prop := (σ b).isSome = true ∨ (ow b).isSome = true
noncomputable def Zs (σ : St) (ow : Nat → Option Nat) (fs : List Addr) (b : Nat) : Prop := Own σ ow b ∨ b ∈ fs
structure Vo where
  l : List Env
  fs : List Addr
  its : List Addr
noncomputable abbrev frs (envs : Vo) : List Addr := envs.fs
noncomputable abbrev zss (envs : Vo) : List Addr := envs.fs ++ envs.its
theorem Vo.sub (envs : Vo) : ∀ b ∈ frs envs, b ∈ zss envs := fun _ h => List.mem_append_left _ h
structure Good (C : Cx) (envs : Vo) (σ : St) (ow : Nat → Option Nat) (s : Shared) : Prop where
  stays : C.base.StaysIn s.heap
  frames : s.heap.FunFrames C.base envs.l
  apart : ∀ b ∈ envs.its, b ∉ envs.fs
  mem : ∀ b, b ∈ zss envs → C.base.get? b = Option.none ∧ ∃ o, s.heap.get? b = some o
  sub : ∀ env ∈ envs.l, ∀ L, env.frame = some L → L ∈ envs.fs
  store : ∀ a o, σ a = some o → ORep C (Zs σ ow (zss envs)) ow s.heap a o
  parts : ∀ b a, ow b = some a → σ b = Option.none ∧ C.base.get? b = Option.none ∧ (s.heap.get? b).isSome = true
  fresh : ∀ a, (σ a).isSome = true → C.base.get? a = Option.none
  off : ∀ L ∈ zss envs, ¬ Own σ ow L
  gens : s.gens = #[]
theorem ORep.live {C : Cx} {Z : Nat → Prop} {ow : Nat → Option Nat} {h : Heap} {a : Addr} {o : AObj} (x : ORep C Z ow h a o) : (h.get? a).isSome = true := by
  cases o with
  | list xs => obtain ⟨_, ⟨_, _, e⟩, _⟩ := x; rw [e]; rfl
  | dictI es => obtain ⟨_, ⟨_, _, _, e, _⟩, _⟩ := x; rw [e]; rfl
  | dictS es => obtain ⟨_, ⟨_, _, _, e, _⟩, _⟩ := x; rw [e]; rfl
  | inst c fs => obtain ⟨_, _, _, e, _⟩ := x; rw [e]; rfl
theorem Good.live {C : Cx} {envs : Vo} {σ : St} {ow : Nat → Option Nat} {s : Shared} (G : Good C envs σ ow s) {b : Addr} (x : Own σ ow b) : ∃ o, s.heap.get? b = some o := by
  rcases x with x | x
  · obtain ⟨o, e⟩ := Option.isSome_iff_exists.mp x
    exact Option.isSome_iff_exists.mp (G.store b o e).live
  · obtain ⟨a, e⟩ := Option.isSome_iff_exists.mp x
    exact Option.isSome_iff_exists.mp (G.parts b a e).2.2
theorem Good.ownBase {C : Cx} {envs : Vo} {σ : St} {ow : Nat → Option Nat} {s : Shared} (G : Good C envs σ ow s) {b : Addr} (x : Own σ ow b) : C.base.get? b = Option.none := by
  rcases x with x | x
  · exact G.fresh b x
  · obtain ⟨a, e⟩ := Option.isSome_iff_exists.mp x
    exact (G.parts b a e).2.1
structure Stp (fs : List Addr) (O O' : Nat → Prop) (s s' : Shared) : Prop where
  keep : ∀ b o, s.heap.get? b = some o → ¬ O b → b ∉ fs → s'.heap.get? b = some o
  frm : ∀ b o, s.heap.get? b = some o → b ∈ fs → ∃ sl, s'.heap.get? b = some { o with slots := sl }
  grow : ∀ b, O b → O' b
  fresh : ∀ b, O' b → O b ∨ s.heap.get? b = Option.none
  gens : s'.gens = s.gens
  drawn : s'.drawn = s.drawn
  os : s'.os = s.os
theorem Stp.refl (fs : List Addr) (O : Nat → Prop) (s : Shared) : Stp fs O O s s := ⟨fun _ _ e _ _ => e, fun _ o e _ => ⟨o.slots, e⟩, fun _ x => x, fun _ x => .inl x, rfl, rfl, rfl⟩
theorem Stp.tk {fs : List Addr} {O O' : Nat → Prop} {s s' : Shared} (x : Stp fs O O' s s') (t : Nat) : Stp fs O O' s { s' with toks := t } := ⟨x.keep, x.frm, x.grow, x.fresh, x.gens, x.drawn, x.os⟩
theorem Stp.trans {fs : List Addr} {O₁ O₂ O₃ : Nat → Prop} {s₁ s₂ s₃ : Shared} (x : Stp fs O₁ O₂ s₁ s₂) (y : Stp fs O₂ O₃ s₂ s₃) : Stp fs O₁ O₃ s₁ s₃ where
  keep := fun b o e n m => y.keep b o (x.keep b o e n m) (fun q => (x.fresh b q).elim n fun z => by rw [e] at z; cases z) m
  frm := fun b o e m => by
    obtain ⟨sl, e1⟩ := x.frm b o e m
    obtain ⟨sl', e2⟩ := y.frm b _ e1 m
    exact ⟨sl', e2⟩
  grow := fun b z => y.grow b (x.grow b z)
  fresh := fun b z => by
    by_cases q : O₁ b
    · exact .inl q
    · refine .inr ?_
      rcases y.fresh b z with z | z
      · exact (x.fresh b z).elim (fun w => absurd w q) id
      · cases e : s₁.heap.get? b with
        | none => rfl
        | some o =>
          by_cases m : b ∈ fs
          · obtain ⟨sl, e1⟩ := x.frm b o e m
            rw [e1] at z; cases z
          · rw [x.keep b o e q m] at z; cases z
  gens := y.gens.trans x.gens
  drawn := y.drawn.trans x.drawn
  os := y.os.trans x.os
theorem Stp.kp {fs zs : List Addr} {O O' : Nat → Prop} {s s' : Shared} (x : Stp fs O O' s s') (hs : ∀ b ∈ fs, b ∈ zs) : Kp (fun b => O b ∨ b ∈ zs) s.heap s'.heap := fun b o e n => x.keep b o e (fun q => n (.inl q)) fun q => n (.inr (hs b q))
theorem Stp.zg {fs zs : List Addr} {O O' : Nat → Prop} {s s' : Shared} (x : Stp fs O O' s s') : Zg (fun b => O b ∨ b ∈ zs) (fun b => O' b ∨ b ∈ zs) s.heap := fun b q => by
  rcases q with q | q
  · exact (x.fresh b q).imp .inl id
  · exact .inl (.inr q)
theorem Stp.vr {C : Cx} {envs : Vo} {σ σ' : St} {ow ow' : Nat → Option Nat} {s s' : Shared} (x : Stp (frs envs) (Own σ ow) (Own σ' ow') s s') {v : AV} {u : Value} (r : VR C (Zs σ ow (zss envs)) s.heap v u) : VR C (Zs σ' ow' (zss envs)) s'.heap v u := r.kp (x.kp envs.sub) x.zg
theorem Stp.vrs {C : Cx} {envs : Vo} {σ σ' : St} {ow ow' : Nat → Option Nat} {s s' : Shared} (x : Stp (frs envs) (Own σ ow) (Own σ' ow') s s') {v : List AV} {u : List Value} (r : VRs C (Zs σ ow (zss envs)) s.heap v u) : VRs C (Zs σ' ow' (zss envs)) s'.heap v u := r.kp (x.kp envs.sub) x.zg
noncomputable def AC (env : Env) (O : Nat → Prop) (h : Heap) (x : Str) (val : Value) : Prop :=
  (env.kindOf x = some .local ∧ ∃ m, h.Ns env.locals m ∧ m x = some val) ∨
  ∃ c, (env.kindOf x = some .cell ∨ env.kindOf x = some .free) ∧ env.cells.lookup x = some c ∧ h.IsCell c (some val) ∧ ¬ O c
structure LocOk (C : Cx) (env : Env) (nms : List Str) (fs : List Addr) (O : Nat → Prop) (h : Heap) (ρ : Loc) : Prop where
  kind : env.scope.kind = .function
  glob : env.globals = mainGlobals
  blt : env.builtins = builtinsNs
  offL : ¬ O env.locals
  val : ∀ i v, fJ ρ i = some v → ∃ x val, nms[i]? = some x ∧ VR C (fun b => O b ∨ b ∈ fs) h v val ∧ AC env O h x val
theorem Ns.slots {h h' : Heap} {a : Addr} {m : Str → Option Value} (k : ∀ o, h.get? a = some o → ∃ sl, h'.get? a = some { o with slots := sl }) (x : h.Ns a m) : h'.Ns a m := by
  obtain ⟨o, es, ep, ho, hd, r⟩ := x
  obtain ⟨sl, e⟩ := k o ho
  exact ⟨_, es, ep, e, hd, r⟩
theorem Stp.up {fs : List Addr} {O O' : Nat → Prop} {s s' : Shared} (x : Stp fs O O' s s') {b : Addr} (n : ¬ O b) (o : Obj) (e : s.heap.get? b = some o) : ∃ sl, s'.heap.get? b = some { o with slots := sl } := by
  by_cases m : b ∈ fs
  · exact x.frm b o e m
  · exact ⟨o.slots, x.keep b o e n m⟩
theorem LocOk.stp {C : Cx} {env : Env} {nms : List Str} {envs : Vo} {O O' : Nat → Prop} {s s' : Shared} {ρ : Loc} (x : Stp (frs envs) O O' s s') (l : LocOk C env nms (zss envs) O s.heap ρ) (lv : ∃ o, s.heap.get? env.locals = some o) : LocOk C env nms (zss envs) O' s'.heap ρ where
  kind := l.kind
  glob := l.glob
  blt := l.blt
  offL := fun q => (x.fresh _ q).elim l.offL fun z => by obtain ⟨o, e⟩ := lv; rw [e] at z; cases z
  val := fun i v e => by
    obtain ⟨y, val, a, r, b⟩ := l.val i v e
    refine ⟨y, val, a, r.kp (x.kp envs.sub) x.zg, ?_⟩
    rcases b with ⟨k, m, hn, hm⟩ | ⟨c, k, hc, hv, hz⟩
    · exact .inl ⟨k, m, Ns.slots (x.up l.offL) hn, hm⟩
    · obtain ⟨o, e, d⟩ := hv
      obtain ⟨sl, e'⟩ := x.up hz o e
      refine .inr ⟨c, k, hc, ⟨_, e', d⟩, fun q => (x.fresh _ q).elim hz fun z => by rw [e] at z; cases z⟩
end Ap
end
section
namespace Ap
open PySem PySem.Calls PyProof.Rows
section
variable {C : Cx} {envs : Vo} {σ : St} {ow : Nat → Option Nat} {s : Shared}
theorem Good.tk (G : Good C envs σ ow s) (t : Nat) : Good C envs σ ow { s with toks := t } := ⟨G.stays, G.frames, G.apart, G.mem, G.sub, G.store, G.parts, G.fresh, G.off, G.gens⟩
theorem Stp.toks {fs : List Addr} {O : Nat → Prop} (t : Nat) : Stp fs O O s { s with toks := t } := (Stp.refl fs O s).tk t
theorem ORep.kp {Z Z' : Nat → Prop} {ow ow' : Nat → Option Nat} {h h' : Heap} {a : Addr} (k : Kp Z h h') (g : Zg Z Z' h) (ka : h'.get? a = h.get? a)
    (kd : ∀ dx, ow dx = some a → h'.get? dx = h.get? dx ∧ ow' dx = some a) {o : AObj} (r : ORep C Z ow h a o) : ORep C Z' ow' h' a o := by
  cases o with
  | list xs =>
    obtain ⟨vs, ⟨z, n, e⟩, x⟩ := r
    exact ⟨vs, ⟨z, n, ka.trans e⟩, x.kp k g⟩
  | dictI es =>
    obtain ⟨kvs, ⟨o, e1, ep, e, r⟩, z, x, y⟩ := r
    exact ⟨kvs, ⟨o, e1, ep, ka.trans e, r⟩, z, x, y.kp k g⟩
  | dictS es =>
    obtain ⟨kvs, ⟨o, e1, ep, e, r⟩, z, x, y⟩ := r
    exact ⟨kvs, ⟨o, e1, ep, ka.trans e, r⟩, z, x, y.kp k g⟩
  | inst c fs =>
    obtain ⟨o, dx, mA, e1, e2, e3, e4, e5, e6, e7, e8, r⟩ := r
    exact ⟨o, dx, mA, ka.trans e1, e2, e3, e4, e5, (kd dx e6).2, e7.at (fun o e => (kd dx e6).1.trans e), e8, r.kp k g⟩
theorem Good.ext (G : Good C envs σ ow s) {h' : Heap} (k : ∀ b o, s.heap.get? b = some o → h'.get? b = some o) (t : Nat) : Good C envs σ ow { s with heap := h', toks := t } where
  stays := fun b o e => k b o (G.stays b o e)
  frames := G.frames.of_keeps fun b o e _ => ⟨o, k b o e, rfl⟩
  apart := G.apart
  mem := fun b m => ⟨(G.mem b m).1, (G.mem b m).2.imp fun o e => k b o e⟩
  sub := G.sub
  store := fun a o e => by
    have x := G.store a o e
    obtain ⟨oa, ea⟩ := Option.isSome_iff_exists.mp x.live
    exact x.kp (fun b o e _ => k b o e) (Zg.refl _ _) (by rw [ea]; exact k a oa ea) fun dx hd => by
      obtain ⟨od, ed⟩ := Option.isSome_iff_exists.mp (G.parts dx a hd).2.2
      exact ⟨by rw [ed]; exact k dx od ed, hd⟩
  parts := fun b a e => ⟨(G.parts b a e).1, (G.parts b a e).2.1, by
    obtain ⟨od, ed⟩ := Option.isSome_iff_exists.mp (G.parts b a e).2.2
    rw [k b od ed]; rfl⟩
  fresh := G.fresh
  off := G.off
  gens := G.gens
theorem Stp.ext {fs : List Addr} {O : Nat → Prop} {h' : Heap} (k : ∀ b o, s.heap.get? b = some o → h'.get? b = some o) (t : Nat) : Stp fs O O s { s with heap := h', toks := t } :=
  ⟨fun b o e _ _ => k b o e, fun b o e _ => ⟨o.slots, k b o e⟩, fun _ x => x, fun _ x => .inl x, rfl, rfl, rfl⟩
theorem Good.new (G : Good C envs σ ow s) : σ s.heap.objs.size = Option.none ∧ ow s.heap.objs.size = Option.none ∧ s.heap.objs.size ∉ zss envs := by
  refine ⟨?_, ?_, fun m => ?_⟩
  · cases e : σ s.heap.objs.size with
    | none => rfl
    | some o =>
      obtain ⟨ob, q⟩ := G.live (b := s.heap.objs.size) (.inl (by rw [e]; rfl))
      exact absurd (Heap.lt_size q) (Nat.lt_irrefl _)
  · cases e : ow s.heap.objs.size with
    | none => rfl
    | some o =>
      obtain ⟨ob, q⟩ := G.live (b := s.heap.objs.size) (.inr (by rw [e]; rfl))
      exact absurd (Heap.lt_size q) (Nat.lt_irrefl _)
  · obtain ⟨_, o, e⟩ := G.mem _ m
    exact absurd (Heap.lt_size e) (Nat.lt_irrefl _)
theorem Good.newZ (G : Good C envs σ ow s) : ¬ Zs σ ow (zss envs) s.heap.objs.size := by
  obtain ⟨a, b, c⟩ := G.new
  rintro ((q | q) | q)
  · rw [a] at q; cases q
  · rw [b] at q; cases q
  · exact c q
theorem gF (σ : St) (a : Nat) (o : AObj) : upd σ a o a = some o := if_pos rfl
theorem cR (σ : St) {a b : Nat} (o : AObj) (h : b ≠ a) : upd σ a o b = σ b := if_neg h
theorem eZ {a b : Nat} {o : AObj} (h : Own (upd σ a o) ow b) : Own σ ow b ∨ b = a := by
  by_cases e : b = a
  · exact .inr e
  · rcases h with h | h
    · rw [cR σ o e] at h; exact .inl (.inl h)
    · exact .inl (.inr h)
theorem uu {a b : Nat} {o : AObj} (h : Own σ ow b) : Own (upd σ a o) ow b := by
  by_cases e : b = a
  · subst e; exact .inl (by rw [gF]; rfl)
  · rcases h with h | h
    · exact .inl (by rw [cR σ o e]; exact h)
    · exact .inr h
theorem rp {a : Nat} {o : AObj} {fs : List Addr} {h : Heap} (n : h.get? a = Option.none ∨ Own σ ow a) : Zg (Zs σ ow fs) (Zs (upd σ a o) ow fs) h := fun b q => by
  rcases q with q | q
  · rcases eZ q with q | q
    · exact .inl (.inl q)
    · subst q
      rcases n with n | n
      · exact .inr n
      · exact .inl (.inl n)
  · exact .inl (.inr q)
theorem Good.alloc (G : Good C envs σ ow s) {ob : Obj} {o : AObj} {h' : Heap} (k : ∀ b o, s.heap.get? b = some o → h'.get? b = some o) {a : Addr} (na : s.heap.get? a = Option.none) (nf : a ∉ zss envs)
    (live : h'.get? a = some ob) (rep : ORep C (Zs (upd σ a o) ow (zss envs)) ow h' a o) (t : Nat) : Good C envs (upd σ a o) ow { s with heap := h', toks := t } where
  stays := fun b o e => k b o (G.stays b o e)
  frames := G.frames.of_keeps fun b o e _ => ⟨o, k b o e, rfl⟩
  apart := G.apart
  mem := fun b m => ⟨(G.mem b m).1, (G.mem b m).2.imp fun o e => k b o e⟩
  sub := G.sub
  store := fun b o' e => by
    by_cases q : b = a
    · subst q
      rw [gF] at e
      cases e
      exact rep
    · rw [cR σ o q] at e
      have x := G.store b o' e
      obtain ⟨oa, ea⟩ := Option.isSome_iff_exists.mp x.live
      exact x.kp (fun b o e _ => k b o e) (rp (.inl na)) (by rw [ea]; exact k b oa ea) fun dx hd => by
        obtain ⟨od, ed⟩ := Option.isSome_iff_exists.mp (G.parts dx b hd).2.2
        exact ⟨by rw [ed]; exact k dx od ed, hd⟩
  parts := fun b c e => by
    obtain ⟨x1, x2, x3⟩ := G.parts b c e
    obtain ⟨od, ed⟩ := Option.isSome_iff_exists.mp x3
    refine ⟨?_, x2, by show (h'.get? b).isSome = true; rw [k b od ed]; rfl⟩
    rw [cR σ o (fun q => by subst q; rw [na] at ed; cases ed)]
    exact x1
  fresh := fun b e => by
    by_cases q : b = a
    · subst q
      cases z : C.base.get? b with
      | none => rfl
      | some o => rw [G.stays b o z] at na; cases na
    · rw [cR σ o q] at e; exact G.fresh b e
  off := fun L hL q => by
    rcases eZ q with q | q
    · exact G.off L hL q
    · exact nf (q ▸ hL)
  gens := G.gens
theorem Stp.alloc {fs : List Addr} {o : AObj} {h' : Heap} (k : ∀ b o, s.heap.get? b = some o → h'.get? b = some o) {a : Addr} (na : s.heap.get? a = Option.none) (t : Nat) : Stp fs (Own σ ow) (Own (upd σ a o) ow) s { s with heap := h', toks := t } :=
  ⟨fun b o e _ _ => k b o e, fun b o e _ => ⟨o.slots, k b o e⟩, fun _ x => uu x, fun b x => (eZ x).imp id fun q => by subst q; exact na, rfl, rfl, rfl⟩
theorem Good.change (G : Good C envs σ ow s) {o₀ o : AObj} {h' : Heap} {a d : Addr} (ha : σ a = some o₀) (hd : d = a ∨ ow d = some a) (k : ∀ b ob, b ≠ d → s.heap.get? b = some ob → h'.get? b = some ob) (kl : (h'.get? d).isSome = true)
    (rep : ORep C (Zs (upd σ a o) ow (zss envs)) ow h' a o) (t : Nat) : Good C envs (upd σ a o) ow { s with heap := h', toks := t } := by
  have hO : Own σ ow d := by
    rcases hd with rfl | hd
    · exact .inl (by rw [ha]; rfl)
    · exact .inr (by rw [hd]; rfl)
  have hK : Kp (Zs σ ow (zss envs)) s.heap h' := fun b ob e n => k b ob (fun q => n (.inl (q ▸ hO))) e
  have hE : ∀ b, (s.heap.get? b).isSome = true → b ≠ d → h'.get? b = s.heap.get? b := fun b hl nd => by
    obtain ⟨ob, e⟩ := Option.isSome_iff_exists.mp hl
    rw [e]; exact k b ob nd e
  refine ⟨fun b ob e => ?_, ?_, G.apart, fun b m => ?_, G.sub, fun b o' e => ?_, fun b c e => ?_, fun b e => ?_, fun L hL q => ?_, G.gens⟩
  · exact k b ob (fun q => by subst q; rw [G.ownBase hO] at e; cases e) (G.stays b ob e)
  · have : ∀ l : List Env, (∀ L ∈ l.filterMap (·.frame), L ≠ d) → s.heap.FunFrames C.base l → h'.FunFrames C.base l := by
      intro l
      induction l with
      | nil => intro _ _; trivial
      | cons env r ih =>
        rintro hn ⟨hk, ⟨L, ob, hf, hb, ho, hdt⟩, hr⟩
        refine ⟨hk, ⟨L, ob, hf, hb, ?_, hdt⟩, ih (fun L hL => hn L ?_) hr⟩
        · exact k L ob (hn L (by simp [List.filterMap_cons, hf])) ho
        · rw [List.filterMap_cons, hf]; exact List.mem_cons_of_mem _ hL
    exact this envs.l (fun L hL q => by
      obtain ⟨env, he, hf⟩ := List.mem_filterMap.mp hL
      exact G.off L (envs.sub _ (G.sub env he L hf)) (q ▸ hO)) G.frames
  · obtain ⟨x, ob, e⟩ := G.mem b m
    exact ⟨x, ob, k b ob (fun q => G.off b m (q ▸ hO)) e⟩
  · by_cases q : b = a
    · subst q
      rw [gF] at e
      cases e
      exact rep
    · rw [cR σ o q] at e
      have nb : b ≠ d := fun z => by
        subst z
        rcases hd with hd | hd
        · exact q hd
        · rw [(G.parts _ _ hd).1] at e; cases e
      exact (G.store b o' e).kp hK (rp (.inr (.inl (by rw [ha]; rfl)))) (hE b (G.store b o' e).live nb) fun dx hdx => ⟨hE dx (G.parts _ _ hdx).2.2 (fun z => by
        subst z
        rcases hd with hd | hd
        · subst hd; rw [(G.parts _ _ hdx).1] at ha; cases ha
        · rw [hdx] at hd; cases hd; exact q rfl), hdx⟩
  · obtain ⟨x1, x2, x3⟩ := G.parts b c e
    refine ⟨?_, x2, ?_⟩
    · rw [cR σ o (fun q => by subst q; rw [x1] at ha; cases ha)]; exact x1
    · show (h'.get? b).isSome = true
      by_cases q : b = d
      · subst q; exact kl
      · rw [hE b x3 q]; exact x3
  · by_cases q : b = a
    · subst q; exact G.fresh b (by rw [ha]; rfl)
    · rw [cR σ o q] at e; exact G.fresh b e
  · rcases eZ q with q | q
    · exact G.off L hL q
    · subst q; exact G.off L hL (.inl (by rw [ha]; rfl))
theorem Stp.change (G : Good C envs σ ow s) {o₀ o : AObj} {h' : Heap} {a d : Addr} (ha : σ a = some o₀) (hd : d = a ∨ ow d = some a) (k : ∀ b ob, b ≠ d → s.heap.get? b = some ob → h'.get? b = some ob) (t : Nat) : Stp (frs envs) (Own σ ow) (Own (upd σ a o) ow) s { s with heap := h', toks := t } := by
  have hO : Own σ ow d := by
    rcases hd with rfl | hd
    · exact .inl (by rw [ha]; rfl)
    · exact .inr (by rw [hd]; rfl)
  refine ⟨fun b ob e n _ => k b ob (fun q => n (q ▸ hO)) e, fun b ob e m => ⟨ob.slots, k b ob (fun q => G.off b (envs.sub _ m) (q ▸ hO)) e⟩, fun _ x => uu x, fun b x => .inl ?_, rfl, rfl, rfl⟩
  rcases eZ x with q | q
  · exact q
  · subst q; exact .inl (by rw [ha]; rfl)
end
end Ap
end
section
namespace Ap
open PySem PySem.Calls PyProof.Rows
noncomputable def ExO (h : Heap) (e : Addr) (cls : Value) (t : Option (Addr × Value)) : Prop :=
  ∃ oe vs a0, h.get? e = some oe ∧ oe.dict = Option.none ∧ oe.cls = cls ∧ oe.data = .fields vs ∧ vs[0]? = some a0 ∧ vs[2]? = some .none ∧
    (match t with
    | Option.none => vs[1]? = some .none
    | some (T, fl) => vs[1]? = some (.ref T) ∧ T ≠ e ∧ ∃ oT ts, h.get? T = some oT ∧ oT.data = .fields ts ∧ ts[3]? = some fl)
noncomputable def ThrA (C : Cx) (ok : Value → Prop) (Z : Nat → Prop) (h₀ : Heap) (e : Addr) (c : Nat) (h : Heap) : Prop :=
  (h₀.get? e = Option.none ∧ ¬ Z e ∧ c ∈ C.xcs) ∧ ∃ t, ExO h e (.ref (C.clsA c)) t ∧ ∀ T fl, t = some (T, fl) → ok fl ∧ h₀.get? T = Option.none ∧ ¬ Z T
noncomputable abbrev Thr (C : Cx) (Z : Nat → Prop) (h₀ : Heap) (e : Addr) (c : Nat) (h : Heap) : Prop := ThrA C (· = .none) Z h₀ e c h
noncomputable abbrev BL (C : Cx) (L : Addr) (Z : Nat → Prop) (h₀ : Heap) (e : Addr) (c : Nat) (h : Heap) : Prop := ThrA C (fun v => v = .none ∨ v = rawInt L) Z h₀ e c h
theorem ThrA.mono {C : Cx} {ok ok' : Value → Prop} {Z Z' : Nat → Prop} {h₀ h : Heap} {e : Addr} {c : Nat} (a : ∀ v, ok v → ok' v) (b : ∀ a, Z' a → Z a) (x : ThrA C ok Z h₀ e c h) : ThrA C ok' Z' h₀ e c h := by
  obtain ⟨⟨n1, n2, n3⟩, t, x1, x2⟩ := x
  exact ⟨⟨n1, fun q => n2 (b _ q), n3⟩, t, x1, fun T fl e => ⟨a _ (x2 T fl e).1, (x2 T fl e).2.1, fun q => (x2 T fl e).2.2 (b _ q)⟩⟩
noncomputable def HOk (A : Around) (q : Bool) (Z : Nat → Prop) (h : Heap) : Prop :=
  A.handled = Option.none ∨ q = true ∧ ∃ e o vs, A.handled = some (.ref e) ∧ h.get? e = some o ∧ o.data = .fields vs ∧ vs[2]? = some .none ∧ ¬ Z e
structure Ok (C : Cx) (A : Around) (q : Bool) (env : Env) (envs : Vo) (nms : List Str) (ρ : Loc) (σ : St) (ow : Nat → Option Nat) (s : Shared) : Prop where
  good : Good C envs σ ow s
  loc : LocOk C env nms (zss envs) (Own σ ow) s.heap ρ
  hnd : HOk A q (Zs σ ow (zss envs)) s.heap
  live : ∃ o, s.heap.get? env.locals = some o
theorem HOk.stp {A : Around} {q : Bool} {envs : Vo} {σ σ' : St} {ow ow' : Nat → Option Nat} {s s' : Shared} (x : Stp (frs envs) (Own σ ow) (Own σ' ow') s s') (h : HOk A q (Zs σ ow (zss envs)) s.heap) : HOk A q (Zs σ' ow' (zss envs)) s'.heap := by
  rcases h with h | ⟨hq, e, o, vs, h1, h2, h3, h4, h5⟩
  · exact .inl h
  · exact .inr ⟨hq, e, o, vs, h1, x.kp envs.sub _ _ h2 h5, h3, h4, x.zg.not h2 h5⟩
theorem Ok.stp {C : Cx} {A : Around} {q : Bool} {env : Env} {envs : Vo} {nms : List Str} {ρ : Loc} {σ σ' : St} {ow ow' : Nat → Option Nat} {s s' : Shared} (k : Ok C A q env envs nms ρ σ ow s)
    (x : Stp (frs envs) (Own σ ow) (Own σ' ow') s s') (g : Good C envs σ' ow' s') : Ok C A q env envs nms ρ σ' ow' s' :=
  ⟨g, k.loc.stp x k.live, k.hnd.stp x, by
    obtain ⟨o, e⟩ := k.live
    obtain ⟨sl, e'⟩ := x.up k.loc.offL o e
    exact ⟨_, e'⟩⟩
noncomputable def KV (C : Cx) (envs : Vo) (σ : St) (ow : Nat → Option Nat) (s : Shared) {α β : Type} (R : (Nat → Prop) → Heap → α → β → Prop) (Qa : α → St → Prop) (Q : β → Shared → Prop) : Prop :=
  ∀ v av σ' ow' s', Qa av σ' → Stp (frs envs) (Own σ ow) (Own σ' ow') s s' → Good C envs σ' ow' s' → R (Zs σ' ow' (zss envs)) s'.heap av v → Q v s'
noncomputable def KX (C : Cx) (envs : Vo) (σ : St) (ow : Nat → Option Nat) (s : Shared) (Ea : PE) (E : Value → Shared → Prop) : Prop :=
  ∀ e c σ' ow' s', Ea c σ' → Stp (frs envs) (Own σ ow) (Own σ' ow') s s' → Good C envs σ' ow' s' → Thr C (Zs σ' ow' (zss envs)) s.heap e c s'.heap → E (.ref e) s'
noncomputable def Snd (C : Cx) (A : Around) (q : Bool) (env : Env) (envs : Vo) (nms : List Str) (ρ : Loc) {α β : Type} (R : (Nat → Prop) → Heap → α → β → Prop) (t : Sem β) (W : St → (α → St → Prop) → PE → Prop) : Prop :=
  ∀ σ ow s Qa Ea Q E, W σ Qa Ea → Ok C A q env envs nms ρ σ ow s → KV C envs σ ow s R Qa Q → KX C envs σ ow s Ea E → wpAny (model C.prog C.w) A t Q E s
noncomputable abbrev RV (C : Cx) (Z : Nat → Prop) (h : Heap) (av : AV) (v : Value) : Prop := VR C Z h av v
noncomputable abbrev RB (C : Cx) (_ : Nat → Prop) (_ : Heap) (a b : Bool) : Prop := a = b
noncomputable abbrev RL (C : Cx) (Z : Nat → Prop) (h : Heap) (av : List AV) (v : List Value) : Prop := VRs C Z h av v
section
variable {C : Cx} {A : Around} {env : Env} {envs : Vo} {nms : List Str} {ρ : Loc}
theorem ThrA.up {ok : Value → Prop} {Z : Nat → Prop} {h₀ h₁ h : Heap} {e : Addr} {c : Nat} (k : ∀ b, h₁.get? b = Option.none → h₀.get? b = Option.none) (x : ThrA C ok Z h₁ e c h) : ThrA C ok Z h₀ e c h := by
  obtain ⟨⟨n1, n2⟩, t, x1, x2⟩ := x
  exact ⟨⟨k _ n1, n2⟩, t, x1, fun T fl e => ⟨(x2 T fl e).1, k _ (x2 T fl e).2.1, (x2 T fl e).2.2⟩⟩
theorem Stp.back {fs : List Addr} {σ σ' : St} {ow ow' : Nat → Option Nat} {s s' : Shared} (x : Stp fs (Own σ ow) (Own σ' ow') s s') {envs : Vo} (hf : fs = frs envs) (g' : Good C envs σ' ow' s') (b : Addr) (n : s'.heap.get? b = Option.none) : s.heap.get? b = Option.none := by
  cases e : s.heap.get? b with
  | none => rfl
  | some o =>
    exfalso
    by_cases q : Own σ ow b
    · obtain ⟨ob, z⟩ := g'.live (x.grow b q)
      rw [n] at z; cases z
    · obtain ⟨sl, z⟩ := x.up q o e
      rw [n] at z; cases z
theorem KX.stp {σ σ' : St} {ow ow' : Nat → Option Nat} {s s' : Shared} {Ea : PE} {E : Value → Shared → Prop} (x : Stp (frs envs) (Own σ ow) (Own σ' ow') s s') (g : Good C envs σ' ow' s') (k : KX C envs σ ow s Ea E) : KX C envs σ' ow' s' Ea E :=
  fun e c σ'' ow'' s'' a y g' t => k e c σ'' ow'' s'' a (x.trans y) g' (ThrA.up (x.back rfl g) t)
theorem KV.stp {α β : Type} {R : (Nat → Prop) → Heap → α → β → Prop} {Qa : α → St → Prop} {Q : β → Shared → Prop} {σ σ' : St} {ow ow' : Nat → Option Nat} {s s' : Shared} (x : Stp (frs envs) (Own σ ow) (Own σ' ow') s s') (k : KV C envs σ ow s R Qa Q) : KV C envs σ' ow' s' R Qa Q :=
  fun v av σ'' ow'' s'' a y g' r => k v av σ'' ow'' s'' a (x.trans y) g' r
theorem KV.val {σ : St} {ow : Nat → Option Nat} {s : Shared} {Qa : PQ} {Q : Value → Shared → Prop} (g : Good C envs σ ow s) (k : KV C envs σ ow s (RV C) Qa Q) {av : AV} {v : Value} (t : Nat) (a : Qa av σ) (r : VR C (Zs σ ow (zss envs)) s.heap av v) : Q v { s with toks := t } :=
  k v av σ ow _ a (Stp.toks t) (g.tk t) r
theorem KV.here {α β : Type} {R : (Nat → Prop) → Heap → α → β → Prop} {σ : St} {ow : Nat → Option Nat} {s : Shared} {Qa : α → St → Prop} {Q : β → Shared → Prop} (g : Good C envs σ ow s) (k : KV C envs σ ow s R Qa Q) {av : α} {v : β} (a : Qa av σ) (r : R (Zs σ ow (zss envs)) s.heap av v) : Q v s :=
  k v av σ ow s a (Stp.refl _ _ _) g r
theorem KV.pushed {σ : St} {ow : Nat → Option Nat} {s : Shared} {Qa : PQ} {Q : Value → Shared → Prop} (g : Good C envs σ ow s) (k : KV C envs σ ow s (RV C) Qa Q) {av : AV} {v : Value} {o : Obj} (t : Nat) (a : Qa av σ)
    (r : VR C (Zs σ ow (zss envs)) (s.heap.push o) av v) : Q v { s with heap := s.heap.push o, toks := t } :=
  have q : ∀ b o', s.heap.get? b = some o' → (s.heap.push o).get? b = some o' := fun _ _ e => Heap.get?_push_of_some o e
  k v av σ ow _ a (Stp.ext q t) (g.ext q t) r
theorem VR.push {σ : St} {ow : Nat → Option Nat} {s : Shared} {o : Obj} {av : AV} {v : Value} (r : VR C (Zs σ ow (zss envs)) s.heap av v) : VR C (Zs σ ow (zss envs)) (s.heap.push o) av v :=
  r.kp (fun _ _ e _ => Heap.get?_push_of_some o e) (Zg.refl _ _)
theorem VRs.push {σ : St} {ow : Nat → Option Nat} {s : Shared} {o : Obj} {av : List AV} {v : List Value} (r : VRs C (Zs σ ow (zss envs)) s.heap av v) : VRs C (Zs σ ow (zss envs)) (s.heap.push o) av v :=
  r.kp (fun _ _ e _ => Heap.get?_push_of_some o e) (Zg.refl _ _)
theorem qA {σ : St} {ow : Nat → Option Nat} {s : Shared} {Qa : PQ} {Q : Value → Shared → Prop} (g : Good C envs σ ow s) (k : KV C envs σ ow s (RV C) Qa Q) {own : Bool} {xs : List AV} {vs : List Value} {n : Nat} (t : Nat)
    (hz : vs.length ≤ 16777216) (w : mkL own xs σ Qa) (r : VRs C (Zs σ ow (zss envs)) s.heap xs vs) : Q (.ref s.heap.objs.size) { s with heap := s.heap.push { cls := .type "list", data := .seq vs.toArray n }, toks := t } := by
  have q : ∀ b o', s.heap.get? b = some o' → (s.heap.push { cls := .type "list", data := .seq vs.toArray n }).get? b = some o' := fun _ _ e => Heap.get?_push_of_some _ e
  have li : IsL (s.heap.push { cls := .type "list", data := .seq vs.toArray n }) s.heap.objs.size vs := ⟨hz, n, Heap.get?_push_size _ rfl⟩
  have na : s.heap.get? s.heap.objs.size = Option.none := by
    cases e : s.heap.get? s.heap.objs.size with
    | none => rfl
    | some o => exact absurd (Heap.lt_size e) (Nat.lt_irrefl _)
  cases own with
  | false => exact k.pushed g t w (.ilist li g.newZ (r.kp (fun _ _ e _ => q _ _ e) (Zg.refl _ _)))
  | true =>
    refine k _ _ _ ow _ (w s.heap.objs.size g.new.1) (Stp.alloc q na t) (g.alloc (o := .list xs) q na g.new.2.2 (Heap.get?_push_size _ rfl) ⟨vs, li, r.kp (fun _ _ e _ => q _ _ e) (rp (.inl na))⟩ t) (.obj _)
end
end Ap
end
section
namespace Ap
open PySem PySem.Calls PyProof.Rows
noncomputable def wm (f : Int → Int → St → PQ → Prop) : O2 := fun a b σ Q => match a with
  | .int x => (match b with
    | .int y => f x y σ Q
    | _ => False)
  | _ => False
noncomputable def bZ : O2 := wm fun x y σ Q => Q (.int (x + y)) σ
noncomputable def dZ : O2 := wm fun x y σ Q => Q (.int (x - y)) σ
noncomputable def we : O2 := wm fun x y σ Q => (x.natAbs < 2 ^ 63 ∨ y.natAbs < 2 ^ 63) ∧ Q (.int (x * y)) σ
noncomputable def bK : O2 := wm fun x y σ Q => y ≠ 0 ∧ Q (.int (x.fmod y)) σ
noncomputable def bC : O2 := wm fun x y σ Q => (y ≠ 0 ∧ y.natAbs < 1073741824) ∧ Q (.int (x.fdiv y)) σ
noncomputable def fN : O2 := fun a b σ Q => match a with
  | .str x => (match b with
    | .str y => x.length + y.length ≤ 1000000 ∧ Q (.str (x ++ y)) σ
    | _ => False)
  | _ => False
noncomputable def di : O2 := fun a b σ Q => match a with
  | .ilist xs => (match b with
    | .int i => 0 ≤ i ∧ kh Q σ xs[i.toNat]?
    | _ => False)
  | _ => False
noncomputable def bO : O2 := fun a b σ Q => match a with
  | .tup xs => (match b with
    | .int i => 0 ≤ i ∧ kh Q σ xs[i.toNat]?
    | _ => False)
  | _ => False
noncomputable def oSl (own : Bool) (lo hi : Nat) : O1 := fun v σ Q => match v with
  | .ilist xs => mkL own ((xs.take hi).drop lo) σ Q
  | _ => False
noncomputable def sL (f : Int → Int → Bool) : OC := fun a b σ K => match a with
  | .int x => (match b with
    | .int y => K (f x y)
    | _ => False)
  | _ => False
noncomputable def cLt : OC := sL fun x y => decide (x < y)
noncomputable def cLe : OC := sL fun x y => decide (x ≤ y)
noncomputable def cGt : OC := sL fun x y => decide (x > y)
noncomputable def cGe : OC := sL fun x y => decide (x ≥ y)
noncomputable def xj : ON := fun vs σ Q => ∃ xs, vs = [.ilist xs] ∧ Q (.int xs.length) σ
noncomputable def vB : ON := fun vs σ Q => ∃ a b c, vs = [.int a, .int b, .int c] ∧ Q (.int (if b < a then (if c < b then c else b) else (if c < a then c else a))) σ
noncomputable def jK : ON := fun vs σ Q => ∃ a b, vs = [.int a, .int b] ∧ Q (.int (if b > a then b else a)) σ
noncomputable def vE : ON := fun vs σ Q => ∃ b, vs = [.bool b] ∧ Q (.int (if b then 1 else 0)) σ
noncomputable def BinSnd (C : Cx) (op : Operator) (f : O2) : Prop :=
  ∀ (A : Around) (envs : Vo) σ ow s (Qa : PQ) (Q : Value → Shared → Prop) E va vb a b, Good C envs σ ow s → KV C envs σ ow s (RV C) Qa Q → VR C (Zs σ ow (zss envs)) s.heap va a → VR C (Zs σ ow (zss envs)) s.heap vb b → f va vb σ Qa → wpAny (model C.prog C.w) A (binaryOp op a b) Q E s
noncomputable def iw (C : Cx) (f : O2) : Prop :=
  ∀ (A : Around) (envs : Vo) σ ow s (Qa : PQ) (Q : Value → Shared → Prop) E va vb a b value slice, (∀ o i, subscripted slice false o i = operate [o, i] (getItem o i)) → Good C envs σ ow s → KV C envs σ ow s (RV C) Qa Q → VR C (Zs σ ow (zss envs)) s.heap va a → VR C (Zs σ ow (zss envs)) s.heap vb b → f va vb σ Qa →
    wpAny (model C.prog C.w) A (subscriptTail value slice a b) Q E s
noncomputable def CmpSnd (C : Cx) (op : CmpOp) (f : OC) : Prop :=
  ∀ (A : Around) (envs : Vo) σ ow s (K : Bool → Prop) (Q : Value → Shared → Prop) E va vb a b, A.units + 64 < cLine → Good C envs σ ow s → VR C (Zs σ ow (zss envs)) s.heap va a → VR C (Zs σ ow (zss envs)) s.heap vb b → f va vb σ K → (∀ r t, K r → Q (.bool r) { s with toks := t }) →
    wpAny (model C.prog C.w) A (compareOp op a b) Q E s
noncomputable def iM (C : Cx) (q : Bool) (fv : Value) (f : ON) : Prop :=
  ∀ (A : Around) (envs : Vo) σ ow s (Qa : PQ) (Q : Value → Shared → Prop) E vs vals, (q = false → A.handled = Option.none) → Good C envs σ ow s → KV C envs σ ow s (RV C) Qa Q → VRs C (Zs σ ow (zss envs)) s.heap vs vals → f vs σ Qa → wpAny (model C.prog C.w) A (call fv vals) Q E s
section
variable {C : Cx}
theorem BinSnd.ii {op : Operator} {f : Int → Int → St → PQ → Prop} (h : ∀ (A : Around) (envs : Vo) σ ow s (Qa : PQ) (Q : Value → Shared → Prop) E x y t u, Good C envs σ ow s → KV C envs σ ow s (RV C) Qa Q → f x y σ Qa → wpAny (model C.prog C.w) A (binaryOp op (.int x t) (.int y u)) Q E s) :
    BinSnd C op (wm f) := by
  intro A envs σ ow s Qa Q E va vb a b g k ra rb w
  cases ra <;> first | exact False.elim w | skip
  cases rb <;> first | exact False.elim w | skip
  exact h A envs σ ow s Qa Q E _ _ _ _ g k w
theorem bp : BinSnd C .Add bZ := .ii fun A envs σ ow s Qa Q E x y t u g k w => add_int (k.val g _ w (.int _ _))
theorem cy : BinSnd C .Sub dZ := .ii fun A envs σ ow s Qa Q E x y t u g k w => sub_int (k.val g _ w (.int _ _))
theorem nr : BinSnd C .Mult we := .ii fun A envs σ ow s Qa Q E x y t u g k w => by
  refine mul_int (k.val g _ w.2 (.int _ _)) ?_
  rcases w.1 with h | h
  · exact IntMulOk.of_left (intBits_le_64 (by omega) (by omega))
  · exact IntMulOk.of_right (intBits_le_64 (by omega) (by omega))
theorem aY : BinSnd C .Mod bK := .ii fun A envs σ ow s Qa Q E x y t u g k w => mod_int' w.1 (k.val g _ w.2 (.int _ _))
theorem bz : BinSnd C .FloorDiv bC := .ii fun A envs σ ow s Qa Q E x y t u g k w => floordiv_int w.1.1 (k.val g _ w.2 (.int _ _)) (.inl (PyProof.noPylong_small w.1.2))
theorem iA {x y : Str} (hx : PyData.strOk x = true) (hy : PyData.strOk y = true) : PyData.strOk (x ++ y) = true := by
  unfold PyData.strOk at *
  show (x.cps ++ y.cps).all _ = true
  rw [Array.all_append, hx, hy]; rfl
theorem fF : BinSnd C .Add fN := by
  intro A envs σ ow s Qa Q E va vb a b g k ra rb w
  cases ra <;> first | exact False.elim w | skip
  cases rb <;> first | exact False.elim w | skip
  rename_i ok1 _ _ ok2
  exact add_str (fun t' tk => k.val g tk w.2 (.str _ _ (iA ok1 ok2))) (by have := w.1; unfold sizeLine; omega)
theorem gU {Q : PQ} {σ : St} {o : Option AV} (h : kh Q σ o) : ∃ v, o = some v ∧ Q v σ := by
  cases o with
  | none => exact False.elim h
  | some v => exact ⟨v, rfl, h⟩
theorem gW {i : Int} {n : Nat} (h0 : 0 ≤ i) (h : i.toNat < n) : seqIndex? i n = some i.toNat := by
  unfold seqIndex?
  simp only [show ¬ (i < 0) by omega, if_false]
  rw [if_pos (by rw [Bool.and_eq_true, decide_eq_true_eq, decide_eq_true_eq]; omega)]
theorem iN : iw C di := by
  intro A envs σ ow s Qa Q E va vb a b value slice hp g k ra rb w
  cases ra <;> first | exact False.elim w | skip
  rename_i li off r
  cases rb <;> first | exact False.elim w | skip
  obtain ⟨v, e, w'⟩ := gU w.2
  obtain ⟨u, e', r'⟩ := r.get _ _ e
  have hlt := (List.getElem?_eq_some_iff.mp e').1
  have hz := li.1
  have h0 := w.1
  exact tail_any li.isList.typeIs slot_list_getitem.lookup (wpAny_getItem_list li.isList h0 (by omega) (by rw [List.getElem?_toArray]; exact e') (k.here g w' r')) (hp _ _)
theorem ce : iw C bO := by
  intro A envs σ ow s Qa Q E va vb a b value slice hp g k ra rb w
  cases ra <;> first | exact False.elim w | skip
  rename_i li off r
  cases rb <;> first | exact False.elim w | skip
  obtain ⟨v, e, w'⟩ := gU w.2
  obtain ⟨u, e', r'⟩ := r.get _ _ e
  have hlt := (List.getElem?_eq_some_iff.mp e').1
  have hz := li.1
  have h0 := w.1
  exact tail_any (IsTup.typeIs li.isTuple) slot_tuple_getitem.lookup (PyProof.Rows.getItem_tuple li.isTuple (by omega) (by omega) (gW h0 (by rw [List.size_toArray]; exact hlt)) (by rw [List.getElem?_toArray]; exact e') (k.here g w' r')) (hp _ _)
theorem CmpSnd.ii {op : CmpOp} {f : Int → Int → Bool} (h : ∀ (A : Around) s (Q : Value → Shared → Prop) E x y t u, Q (.bool (f x y)) s → wpAny (model C.prog C.w) A (compareOp op (.int x t) (.int y u)) Q E s) : CmpSnd C op (sL f) := by
  intro A envs σ ow s K Q E va vb a b hu g ra rb w k
  cases ra <;> first | exact False.elim w | skip
  cases rb <;> first | exact False.elim w | skip
  exact h A s Q E _ _ _ _ (k _ s.toks w)
theorem mC : CmpSnd C .Lt cLt := .ii fun A s Q E x y t u h => PyProof.Rows.lt_int h
theorem kA : CmpSnd C .LtE cLe := .ii fun A s Q E x y t u h => PyProof.Rows.le_int h
theorem pu : CmpSnd C .Gt cGt := .ii fun A s Q E x y t u h => PyProof.Rows.gt_int h
theorem xy : CmpSnd C .GtE cGe := .ii fun A s Q E x y t u h => PyProof.Rows.ge_int h
theorem KV.grown {envs : Vo} {σ : St} {ow : Nat → Option Nat} {s : Shared} {Qa : PQ} {Q : Value → Shared → Prop} (g : Good C envs σ ow s) (k : KV C envs σ ow s (RV C) Qa Q) {h' : Heap} {t : Nat} {av : AV} {v : Value} (e : ∀ b o, s.heap.get? b = some o → h'.get? b = some o) (a : Qa av σ)
    (r : VR C (Zs σ ow (zss envs)) h' av v) : Q v { s with heap := h', toks := t } := k v av σ ow _ a (Stp.ext e t) (g.ext e t) r
theorem BK : iM C true (.builtin "len") xj := by
  intro A envs σ ow s Qa Q E vs vals hq g k r w
  obtain ⟨xs, rfl, w⟩ := w
  cases r with | cons r1 r2 =>
  cases r2
  cases r1 with | ilist li off r =>
  refine len_list li.isList (by have := li.1; rw [List.size_toArray]; omega) ?_
  rw [List.size_toArray, ← r.length]
  exact k.val g _ w (.int _ _)
theorem Aq : iM C false (.builtin "min") vB := by
  intro A envs σ ow s Qa Q E vs vals hq g k r w
  obtain ⟨a, b, c, rfl, w⟩ := w
  cases r with | cons r1 r2 =>
  cases r2 with | cons r2 r3 =>
  cases r3 with | cons r3 r4 =>
  cases r4; cases r1; cases r2; cases r3
  refine min_three_ints (hq rfl) fun h' tk e => ?_
  split at w <;> rename_i hc <;> split at w <;> rename_i hd
  · rw [if_pos hc, if_pos hd]; exact k.grown g e w (.int _ _)
  · rw [if_pos hc, if_neg hd]; exact k.grown g e w (.int _ _)
  · rw [if_neg hc, if_pos hd]; exact k.grown g e w (.int _ _)
  · rw [if_neg hc, if_neg hd]; exact k.grown g e w (.int _ _)
theorem zy : iM C false (.builtin "max") jK := by
  intro A envs σ ow s Qa Q E vs vals hq g k r w
  obtain ⟨a, b, rfl, w⟩ := w
  cases r with | cons r1 r2 =>
  cases r2 with | cons r2 r3 =>
  cases r3; cases r1; cases r2
  refine max_two_ints (hq rfl) fun h' tk e => ?_
  split at w <;> rename_i hc
  · rw [if_pos hc]; exact k.grown g e w (.int _ _)
  · rw [if_neg hc]; exact k.grown g e w (.int _ _)
theorem zv : iM C true (.type "int") vE := by
  intro A envs σ ow s Qa Q E vs vals hq g k r w
  obtain ⟨b, rfl, w⟩ := w
  cases r with | cons r1 r2 =>
  cases r2; cases r1
  exact call_int_bool (k.val g _ w (.int _ _))
end
end Ap
end
section
namespace Ap
open PySem PySem.Calls PyProof.Rows
noncomputable def jS {α β : Type} (f : α → Option β) : List α → Option (List β)
  | [] => some []
  | x :: xs => (f x).bind fun d => (jS f xs).map (d :: ·)
noncomputable def rd : Nat → St → AV → Option PyData
  | 0, _, _ => Option.none
  | n + 1, σ, v => match v with
    | .none => some .none
    | .bool b => some (.bool b)
    | .int i => some (.int i)
    | .str s => some (.str s)
    | .tup xs => (jS (rd n σ) xs).map .tuple
    | .ilist xs => (jS (rd n σ) xs).map .list
    | .obj a => (dm σ (.obj a)).bind fun xs => (jS (rd n σ) xs).map .list
    | .exn _ => Option.none
noncomputable def cEq : OC := fun a b σ K => ∃ x y, rd 8 σ a = some x ∧ rd 8 σ b = some y ∧ K (PyData.eqv x y)
noncomputable def cNe : OC := fun a b σ K => ∃ x y, rd 8 σ a = some x ∧ rd 8 σ b = some y ∧ K (!PyData.eqv x y)
section
variable {C : Cx} {A : Around} {envs : Vo} {σ : St} {ow : Nat → Option Nat} {s : Shared}
theorem cQ {a : Nat} {xs : List AV} (e : dm σ (.obj a) = some xs) : σ a = some (.list xs) := by
  have e' : (match σ a with | some (.list xs) => some xs | _ => Option.none) = some xs := e
  cases h : σ a with
  | none => rw [h] at e'; cases e'
  | some o =>
    rw [h] at e'
    cases o <;> first | (cases e'; rfl) | cases e'
theorem ky {n : Nat} {Z : Nat → Prop} {h : Heap} (f : AV → Option PyData) (ih : ∀ v u d, VR C Z h v u → f v = some d → (∃ as, Reads h u d as) ∧ d.canLay0 = true ∧ d.depth ≤ n) :
    ∀ {xs : List AV} {vs : List Value} {ds : List PyData}, VRs C Z h xs vs → jS f xs = some ds → (∃ as, ReadsAll h vs ds as) ∧ PyData.canLayAll0 ds = true ∧ PyData.depthAll ds ≤ n := by
  intro xs
  induction xs with
  | nil =>
    intro vs ds r e
    cases r
    cases e
    exact ⟨⟨_, .nil⟩, rfl, Nat.zero_le _⟩
  | cons x xs hx =>
    intro vs ds r e
    cases r with | cons hd tl =>
    obtain ⟨d, e1, e2⟩ := Option.bind_eq_some_iff.mp e
    obtain ⟨ds', e3, rfl⟩ := Option.map_eq_some_iff.mp e2
    obtain ⟨⟨as, r⟩, c, dp⟩ := ih _ _ _ hd e1
    obtain ⟨⟨bs, rs⟩, cs, dps⟩ := hx tl e3
    refine ⟨⟨_, .cons r rs⟩, ?_, Nat.max_le.mpr ⟨dp, dps⟩⟩
    show (d.canLay0 && PyData.canLayAll0 ds') = true
    rw [c, cs]; rfl
theorem lL (g : Good C envs σ ow s) : ∀ (n : Nat) (v : AV) (u : Value) (d : PyData), VR C (Zs σ ow (zss envs)) s.heap v u → rd n σ v = some d → (∃ as, Reads s.heap u d as) ∧ d.canLay0 = true ∧ d.depth ≤ n := by
  intro n
  induction n with
  | zero => intro v u d r e; cases e
  | succ n ih =>
    intro v u d r e
    cases r with
    | none => cases e; exact ⟨⟨_, .none⟩, rfl, Nat.zero_le _⟩
    | bool b => cases e; exact ⟨⟨_, .bool b⟩, rfl, Nat.zero_le _⟩
    | int i t => cases e; exact ⟨⟨_, .int i t⟩, rfl, Nat.zero_le _⟩
    | str x t ok => cases e; exact ⟨⟨_, .str x t⟩, ok, Nat.zero_le _⟩
    | tup at_ off r =>
      obtain ⟨ds, e', rfl⟩ := Option.map_eq_some_iff.mp e
      obtain ⟨⟨as, rs⟩, c, dp⟩ := ky (rd n σ) ih r e'
      obtain ⟨_, m, ho⟩ := at_
      exact ⟨⟨_, .tuple ho rfl rfl rs⟩, c, Nat.succ_le_succ dp⟩
    | ilist at_ off r =>
      obtain ⟨ds, e', rfl⟩ := Option.map_eq_some_iff.mp e
      obtain ⟨⟨as, rs⟩, c, dp⟩ := ky (rd n σ) ih r e'
      obtain ⟨_, m, ho⟩ := at_
      exact ⟨⟨_, .list ho rfl rfl rs⟩, c, Nat.succ_le_succ dp⟩
    | obj a =>
      obtain ⟨xs, e1, e2⟩ := Option.bind_eq_some_iff.mp e
      obtain ⟨ds, e', rfl⟩ := Option.map_eq_some_iff.mp e2
      obtain ⟨vs, ⟨_, m, ho⟩, r⟩ := g.store a _ (cQ e1)
      obtain ⟨⟨as, rs⟩, c, dp⟩ := ky (rd n σ) ih r e'
      exact ⟨⟨_, .list ho rfl rfl rs⟩, c, Nat.succ_le_succ dp⟩
    | exn at_ cls dt off => cases e
theorem cX : CmpSnd C .Eq cEq := by
  intro A envs σ ow s K Q E va vb a b hu g ra rb w k
  obtain ⟨x, y, e1, e2, w⟩ := w
  obtain ⟨⟨as, r1⟩, c1, d1⟩ := lL g 8 _ _ _ ra e1
  obtain ⟨⟨bs, r2⟩, c2, d2⟩ := lL g 8 _ _ _ rb e2
  exact SeqAt.compareEq_reads r1 r2 c1 c2 (by omega) (k _ s.toks w)
theorem jn : CmpSnd C .NotEq cNe := by
  intro A envs σ ow s K Q E va vb a b hu g ra rb w k
  obtain ⟨x, y, e1, e2, w⟩ := w
  obtain ⟨⟨as, r1⟩, c1, d1⟩ := lL g 8 _ _ _ ra e1
  obtain ⟨⟨bs, r2⟩, c2, d2⟩ := lL g 8 _ _ _ rb e2
  exact SeqAt.compareNe_reads r1 r2 c1 c2 (by omega) (k _ s.toks w)
theorem VRs.drop {Z : Nat → Prop} {h : Heap} : ∀ {xs : List AV} {vs : List Value}, VRs C Z h xs vs → ∀ n : Nat, VRs C Z h (xs.drop n) (vs.drop n) := by
  intro xs
  induction xs with
  | nil => intro vs r n; cases r; rw [List.drop_nil, List.drop_nil]; exact .nil
  | cons x xs ih =>
    intro vs r n
    cases n with
    | zero => exact r
    | succ n => cases r with | cons hd tl => exact ih tl n
theorem VRs.take {Z : Nat → Prop} {h : Heap} : ∀ {xs : List AV} {vs : List Value}, VRs C Z h xs vs → ∀ n : Nat, VRs C Z h (xs.take n) (vs.take n) := by
  intro xs
  induction xs with
  | nil => intro vs r n; cases r; rw [List.take_nil, List.take_nil]; exact .nil
  | cons x xs ih =>
    intro vs r n
    cases n with
    | zero => exact .nil
    | succ n => cases r with | cons hd tl => exact .cons hd (ih tl n)
theorem pC (vs : List Value) (lo hi : Nat) : slicePick vs.toArray (some (lo : Int)) (some (hi : Int)) Option.none = ((vs.take hi).drop lo).toArray := by
  rw [slicePick_plain]
  congr 1
  show List.take (clipAt vs.length (hi : Int) - clipAt vs.length (lo : Int)) (List.drop (clipAt vs.length (lo : Int)) vs) = _
  rw [clipAt_nat, clipAt_nat]
  rw [List.drop_take]
  by_cases h : lo ≤ vs.length
  · rw [Nat.min_eq_left h]
    by_cases h2 : hi ≤ vs.length
    · rw [Nat.min_eq_left h2]
    · rw [Nat.min_eq_right (by omega), List.take_of_length_le (by rw [List.length_drop]; omega), List.take_of_length_le (by rw [List.length_drop]; omega)]
  · rw [List.drop_eq_nil_of_le (by omega), List.drop_eq_nil_of_le (by omega), List.take_nil, List.take_nil]
theorem zF {own : Bool} {lo hi : Nat} {value : Expr} {lower upper : Option Expr} {pp : Pos} {va : AV} {a : Value} {t u : Tok} {Qa : PQ} {Q : Value → Shared → Prop} {E : Value → Shared → Prop} (g : Good C envs σ ow s) (k : KV C envs σ ow s (RV C) Qa Q)
    (ra : VR C (Zs σ ow (zss envs)) s.heap va a) (w : oSl own lo hi va σ Qa) :
    wpAny (model C.prog C.w) A (subscriptTail value (.Slice lower upper Option.none pp) a (.ref s.heap.objs.size)) Q E { s with heap := s.heap.push { cls := .type "slice", data := .fields #[.int lo t, .int hi u, .none] } } := by
  have q : ∀ b o', s.heap.get? b = some o' → (s.heap.push { cls := .type "slice", data := .fields #[.int lo t, .int hi u, .none] }).get? b = some o' := fun _ _ e => Heap.get?_push_of_some _ e
  have ra' := VR.push (o := { cls := .type "slice", data := .fields #[.int lo t, .int hi u, .none] }) ra
  cases ra' <;> first | exact False.elim w | skip
  rename_i li off r
  have hz := li.1
  refine tail_any (ops := [.ref s.heap.objs.size, _]) li.isList.typeIs slot_list_getitem.lookup (wpAny_getItem_list_slice li.isList (Heap.IsSliceOf.new _ _ _ _) (.int _ _) (.int _ _) .none (by intro h; cases h) ?_ (by rw [List.size_toArray]; exact hz)) rfl
  rw [pC]
  refine qA (s := { s with heap := s.heap.push { cls := .type "slice", data := .fields #[.int lo t, .int hi u, .none] } }) (g.ext q s.toks) (k.stp (Stp.ext q s.toks)) s.toks ?_ w ((r.take _).drop _)
  rw [List.length_drop, List.length_take]
  omega
end
end Ap
end
section
set_option genSizeOf false
set_option genSizeOfSpec false
namespace Ap
open PySem PySem.Calls PyProof.Rows
structure FnT where
  nms : List Str
  sc : Scope
  body : List Stmt
structure Tabs where
  fts : List FnT
  fnN : List Str
  clsN : List Str
  atN : List Str
  bltN : List Str
structure ClsAt (C : Cx) (T : Tabs) (c : Nat) (ci : ClsI) : Prop where
  ex : ∃ nm q N bs sn sub col dd k0 k1 k2 k3 k5 mN, C.base.get? (C.clsA c) = some (excClassObj nm q (C.clsA c) N bs [.type "object"] true sn sub false col dd k0 k1 k2 k3 k5 "object.__new__") ∧ C.base.Ns N mN ∧
    mN "__getattribute__" = Option.none ∧ mN "__getattr__" = Option.none ∧ mN "__setattr__" = Option.none ∧ (∀ f, ci.init = some f → mN "__init__" = some (.ref (C.fnA f))) ∧
    (∀ m f, ci.meths.lookup m = some f → mN (C.nm m) = some (.ref (C.fnA f))) ∧ ∀ k, ci.meths.lookup k = Option.none → k < T.atN.length → mN (C.nm k) = Option.none
noncomputable def CD (C : Cx) (c : Nat) (t : Value) (b : Bool) : Prop :=
  ∀ A Q E (s : Shared) e o vs, C.base.StaysIn s.heap → s.heap.get? e = some o → o.cls = .ref (C.clsA c) → o.data = .fields vs → o.dict = Option.none → (∀ tk, Q (.bool b) { s with toks := tk }) →
    wpAny (model C.prog C.w) A (call (.builtin "isinstance") [.ref e, t]) Q E s
noncomputable def EK (C : Cx) (c d : Nat) (b : Bool) : Prop :=
  ∀ A Q E (s : Shared) e o vs, C.base.StaysIn s.heap → s.heap.get? e = some o → o.cls = .ref (C.clsA c) → o.data = .fields vs → o.dict = Option.none → Q b s →
    wpAny (model C.prog C.w) A (excMatches (.ref e) (.ref (C.clsA d))) Q E s
structure ExcAt (C : Cx) (c : Nat) : Prop where
  ex : ∃ nm q N bs bm bmB hdct sn sub ab col dd k0 k1 k2 k3 k5 B newId initId mN, C.base.get? (C.clsA c) = some (excClassObj nm q (C.clsA c) N bs bm hdct sn sub ab col dd k0 k1 k2 k3 k5 newId) ∧ C.base.Ns N mN ∧
    mN "__init__" = Option.none ∧ OwnTail C.base bmB bm ∧ ExcBaseFacts B newId initId bmB ∧ bm.contains (.type "BaseException") = true
structure FnOk (C : Cx) (a : Addr) (ft : FnT) (arity : Nat) : Prop where
  ex : ∃ o fd, C.base.get? a = some o ∧ o.cls = .type "function" ∧ o.data = .func fd ∧ fd.body = .stmts ft.body ∧ fd.scope = ft.sc ∧ fd.globals = mainGlobals ∧ fd.builtins = builtinsNs ∧ fd.closure = [] ∧
    C.base.CodeRec fd.code fd.qualname ∧ ∀ vals : List Value, vals.length = arity → bindArgs fd ⟨vals, []⟩ = pure ((ft.nms.take arity).zip vals)
structure CxOk (C : Cx) (T : Tabs) (P : Prg) : Prop where
  g : C.base.Ns mainGlobals C.mg
  b : C.base.Ns builtinsNs C.mb
  nolimit : C.base.NoLimit
  builtins : ∀ x : Str, x ≠ "__name__" → C.mb x = bootBuiltins x
  fnN : ∀ f x, T.fnN[f]? = some x → x ≠ Str.empty → C.mg x = some (.ref (C.fnA f))
  clsN : ∀ c x, T.clsN[c]? = some x → C.mg x = some (.ref (C.clsA c))
  bltN : ∀ x ∈ T.bltN, C.mg x = Option.none
  nm : ∀ k, C.nm k = T.atN.getD k Str.empty
  inj : T.atN.Nodup
  ne : Str.empty ∉ T.atN
  objN : ∀ x ∈ T.atN, typeLookup (.type "object") x = pure Option.none
  fnF : ∀ f, f < T.fnN.length → ∃ o fd, C.base.get? (C.fnA f) = some o ∧ o.cls = .type "function" ∧ o.data = .func fd
  cls : ∀ c ∈ C.ics, ∃ ci, P.cls[c]? = some ci ∧ ClsAt C T c ci
  ics : ∀ c ci, P.cls[c]? = some ci → ci.init ≠ Option.none → c ∈ C.ics
  xcs : ∀ c ci, P.cls[c]? = some ci → ci.init = Option.none → c ∈ C.xcs
  isiC : ∀ c ∈ C.xcs, ∀ d ∈ C.xcs, ∀ ci, P.cls[c]? = some ci → CD C c (.ref (C.clsA d)) (ci.sups.contains d)
  isiV : ∀ c ∈ C.xcs, CD C c (.type "ValueError") true
  exm : ∀ c ∈ C.xcs, ∀ d ∈ C.xcs, ∀ ci, P.cls[c]? = some ci → EK C c d (ci.sups.contains d)
  exc : ∀ c ∈ C.xcs, ExcAt C c
  fns : ∀ f fi, P.fns[f]? = some fi → ∃ ft, T.fts[f]? = some ft ∧ FnOk C (C.fnA f) ft fi.arity
section
variable {C : Cx} {T : Tabs} {P : Prg} {A : Around} {q : Bool} {env : Env} {envs : Vo} {nms : List Str} {ρ : Loc} {σ : St} {ow : Nat → Option Nat} {s : Shared} {Qa : PQ} {Q : Value → Shared → Prop} {E : Value → Shared → Prop}
theorem Good.notBase (g : Good C envs σ ow s) {b : Addr} {o : Obj} (e : C.base.get? b = some o) : ¬ Zs σ ow (zss envs) b := by
  rintro (q | q)
  · rw [g.ownBase q] at e; cases e
  · rw [(g.mem _ q).1] at e; cases e
theorem Good.baseVR (g : Good C envs σ ow s) {v : AV} {u : Value} (r : VR C (fun _ => False) C.base v u) : VR C (Zs σ ow (zss envs)) s.heap v u :=
  r.kp (fun b o e _ => g.stays b o e) fun b q => .inr (by
    cases e : C.base.get? b with
    | none => rfl
    | some o => exact absurd q (g.notBase e))
theorem Good.big (X : CxOk C T P) (g : Good C envs σ ow s) : 3 < s.heap.objs.size := by
  obtain ⟨o, _, _, e, _⟩ := X.g
  exact Heap.lt_size (g.stays _ _ e)
theorem zo {i : Nat} {x : Str} {pos : Pos} {v : AV} (hx : nms[i]? = some x) (hd : (x == ("__debug__" : Str)) = false) (hn : (x == ("__classdict__" : Str)) = false) (k : Ok C A q env envs nms ρ σ ow s) (kv : KV C envs σ ow s (RV C) Qa Q)
    (e : fJ ρ i = some v) (w : Qa v σ) : wpAny (model C.prog C.w) A (eval (.Name x pos) env) Q E s := by
  obtain ⟨y, val, ey, r, l⟩ := k.loc.val i v e
  rw [hx] at ey
  cases ey
  have fin : Q val s := kv.here k.good w r
  rcases l with ⟨kd, m, hns, hm⟩ | ⟨c, kd, hc, hv, _⟩
  · exact wpAny_Name (wpAny_loadName_local k.loc.kind kd hns hm fin) hd
  · rcases kd with kd | kd
    · exact wpAny_Name (wpAny_loadName_cell k.loc.kind kd hc hv fin) hd
    · exact wpAny_Name (wpAny_loadName_free k.loc.kind kd hc hv fin hn) hd
theorem gname {x : Str} {pos : Pos} {v : Value} (X : CxOk C T P) (hx : env.kindOf x = some .globalImplicit) (hd : (x == ("__debug__" : Str)) = false) (k : Ok C A q env envs nms ρ σ ow s) (e : C.mg x = some v) (h : Q v s) :
    wpAny (model C.prog C.w) A (eval (.Name x pos) env) Q E s :=
  Name_function_global k.loc.kind hx (loadGlobal_global (by rw [k.loc.glob]; exact X.g.keeps k.good.stays) e h) hd
theorem bname {x : Str} {pos : Pos} {v : Value} (X : CxOk C T P) (hx : env.kindOf x = some .globalImplicit) (hd : (x == ("__debug__" : Str)) = false) (k : Ok C A q env envs nms ρ σ ow s) (hm : x ∈ T.bltN) (hn : x ≠ "__name__") (hv : bootBuiltins x = some v) (h : Q v s) :
    wpAny (model C.prog C.w) A (eval (.Name x pos) env) Q E s :=
  Name_function_global k.loc.kind hx (loadGlobal_builtin (by rw [k.loc.glob]; exact X.g.keeps k.good.stays) (X.bltN x hm) (by rw [k.loc.blt]; exact X.b.keeps k.good.stays) ((X.builtins x hn).trans hv) h) hd
theorem ORep.inst {c : Nat} {fs : List (Nat × AV)} {a : Addr} (g : Good C envs σ ow s) (e : σ a = some (.inst c fs)) : ∃ dx mA, s.heap.Inst a (C.clsA c) mA ∧ ow dx = some a ∧ FMap C (Zs σ ow (zss envs)) s.heap fs mA ∧ (∃ o, s.heap.get? a = some o ∧ o.dict = some dx) ∧ c ∈ C.ics := by
  obtain ⟨o, dx, mA, h1, h2, h3, h4, h5, h6, h7, h8, h9⟩ := g.store a _ e
  exact ⟨dx, mA, ⟨o, h1, h2, h3, .inr ⟨dx, h4, h5, h7⟩⟩, h6, h9, ⟨o, h1, h4⟩, h8.1⟩
theorem CxOk.nm_lt (X : CxOk C T P) {f : Nat} {x : Str} (h : T.atN[f]? = some x) : C.nm f = x ∧ f < T.atN.length := by
  refine ⟨by rw [X.nm, List.getD_eq_getElem?_getD, h]; rfl, (List.getElem?_eq_some_iff.mp h).1⟩
theorem CxOk.mem (X : CxOk C T P) {f : Nat} {x : Str} (h : T.atN[f]? = some x) : x ∈ T.atN := List.mem_of_getElem? h
theorem xb {c f : Nat} {x : Str} {va : AV} {a : Value} {expr : Bool} (X : CxOk C T P) (hx : T.atN[f]? = some x) (hp : ∀ ci, P.cls[c]? = some ci → ci.meths.lookup f = Option.none)
    (g : Good C envs σ ow s) (k : KV C envs σ ow s (RV C) Qa Q) (ra : VR C (Zs σ ow (zss envs)) s.heap va a) (w : bq c f va σ Qa) :
    wpAny (model C.prog C.w) A (getAttr a x expr) Q E s := by
  obtain ⟨a, fs, v, rfl, ha, hv, w⟩ := w
  cases ra
  obtain ⟨dx, mA, I, _, fm, _, hci⟩ := ORep.inst g ha
  obtain ⟨ci, h1, h2⟩ := X.cls c hci
  obtain ⟨nm, q, N, bs, sn, sub, col, dd, k0, k1, k2, k3, k5, mN, c1, c2, c3, c4, c5, c6, c7, c8⟩ := h2.ex
  obtain ⟨u, hu, ru⟩ := fm.1 f v hv
  obtain ⟨en, lt⟩ := X.nm_lt hx
  obtain ⟨hh, gg, dd', tt, oo⟩ := s
  refine load_attr (mA := mA) (g.stays _ _ c1) (c2.keeps g.stays) c3 (by rw [← en]; exact c8 f (hp ci h1) lt) (X.objN x (X.mem hx)) I (by rw [← en]; exact hu) ?_ (k.val g _ w ru)
  cases ru <;> rfl
theorem vT {κ : Type} [DecidableEq κ] (k k' : κ) (v : AV) : ∀ es : List (κ × AV), aW (co k v es) k' = if k' = k then some v else aW es k' := by
  have snoc : ∀ es : List (κ × AV), es.any (fun e => e.1 = k) = false → aW (es ++ [(k, v)]) k' = if k' = k then some v else aW es k' := by
    intro es h
    unfold aW
    rw [List.find?_append]
    by_cases q : k' = k
    · subst q
      have : es.find? (fun e => decide (e.1 = k')) = Option.none := by
        rw [List.find?_eq_none]
        intro x hx hq
        have := List.any_eq_false.mp h x hx
        exact this hq
      simp [this]
    · simp [q, Ne.symm q]
  have mp : ∀ es : List (κ × AV), es.any (fun e => e.1 = k) = true → aW (es.map (fun e => if e.1 = k then (e.1, v) else e)) k' = if k' = k then some v else aW es k' := by
    intro es
    induction es with
    | nil => intro h; simp at h
    | cons e es ih =>
      intro h
      by_cases q : e.1 = k
      · by_cases z : k' = k
        · subst z; simp [aW, q]
        · have : ¬ e.1 = k' := fun y => z (y.symm.trans q)
          simp only [List.map_cons, q, if_true, z, if_false]
          have e1 : aW ((k, v) :: es.map (fun e => if e.1 = k then (e.1, v) else e)) k' = aW (es.map (fun e => if e.1 = k then (e.1, v) else e)) k' := by simp [aW, List.find?_cons, Ne.symm z]
          have e2 : aW (e :: es) k' = aW es k' := by simp [aW, List.find?_cons, this]
          rw [e1, e2]
          by_cases a : es.any (fun e => e.1 = k) = true
          · rw [ih a, if_neg z]
          · have hm : es.map (fun e => if e.1 = k then (e.1, v) else e) = es := by
              conv => rhs; rw [← List.map_id es]
              apply List.map_congr_left
              intro y hy
              have : ¬ y.1 = k := fun w => a (List.any_eq_true.mpr ⟨y, hy, by simpa using w⟩)
              simp [this]
            rw [hm]
      · have h' : es.any (fun e => e.1 = k) = true := by simpa [List.any_cons, q] using h
        simp only [List.map_cons, q, if_false]
        by_cases z : e.1 = k'
        · have : ¬ k' = k := fun y => q (z.trans y)
          simp [aW, List.find?_cons, z, this]
        · have e1 : aW (e :: es.map (fun e => if e.1 = k then (e.1, v) else e)) k' = aW (es.map (fun e => if e.1 = k then (e.1, v) else e)) k' := by simp [aW, List.find?_cons, z]
          have e2 : aW (e :: es) k' = aW es k' := by simp [aW, List.find?_cons, z]
          rw [e1, e2]; exact ih h'
  intro es
  unfold co
  by_cases h : es.any (fun e => decide (e.1 = k)) = true
  · rw [if_pos h]; exact mp es h
  · rw [if_neg h]; exact snoc es (Bool.eq_false_iff.mpr h)
theorem ql {κ : Type} [DecidableEq κ] (k : κ) (v : AV) (es : List (κ × AV)) : ∀ x, (x ∈ es.map (·.1) ∨ x = k) ↔ x ∈ (co k v es).map (·.1) := by
  intro x
  unfold co
  split
  · rename_i h
    have e : (es.map (fun e => if e.1 = k then (e.1, v) else e)).map (·.1) = es.map (·.1) := by
      rw [List.map_map]; apply List.map_congr_left; intro y _; simp only [Function.comp]; split <;> rfl
    rw [e]
    constructor
    · rintro (h1 | rfl)
      · exact h1
      · obtain ⟨y, hy, hq⟩ := List.any_eq_true.mp h
        exact List.mem_map.mpr ⟨y, hy, by simpa using hq⟩
    · exact .inl
  · simp
theorem mY {κ : Type} [DecidableEq κ] (k : κ) (v : AV) (es : List (κ × AV)) : (co k v es).length ≤ es.length + 1 := by
  unfold co; split <;> simp
theorem yB {f c : Nat} {x : Str} {a : Addr} {v : AV} {u : Value} {fs : List (Nat × AV)} {Q : Unit → Shared → Prop} (X : CxOk C T P) (hx : T.atN[f]? = some x) (hp : P.cls.all (fun ci => (ci.meths.lookup f).isNone) = true)
    (g : Good C envs σ ow s) (ha : σ a = some (.inst c fs)) (hz : fs.length < 100) (r : VR C (Zs σ ow (zss envs)) s.heap v u)
    (k : ∀ s', Stp (frs envs) (Own σ ow) (Own (upd σ a (.inst c (co f v fs))) ow) s s' → Good C envs (upd σ a (.inst c (co f v fs))) ow s' → Q () s') :
    wpAny (model C.prog C.w) A (setAttr (.ref a) x u) Q E s := by
  obtain ⟨o, dx, mA, h1, h2, h3, h4, h5, h6, h7, ⟨hci, h8⟩, fm⟩ := g.store a _ ha
  obtain ⟨ci, q1, q2⟩ := X.cls c hci
  obtain ⟨nm, q, N, bs, sn, sub, col, dd, k0, k1, k2, k3, k5, mN, c1, c2, c3, c4, c5, c6, c7, c8⟩ := q2.ex
  obtain ⟨en, lt⟩ := X.nm_lt hx
  have hm : ci.meths.lookup f = Option.none := by
    have := List.all_eq_true.mp hp ci (List.mem_of_getElem? q1)
    simpa using this
  obtain ⟨hh, gg, dd', tt, oo⟩ := s
  have hxC : a ≠ C.clsA c := fun z => by
    rw [z] at ha
    rw [g.fresh _ (by rw [ha]; rfl)] at c1; cases c1
  refine store_attr (ns := fs.map fun p => C.nm p.1) PySem.F.store_object (g.stays _ _ c1) (c2.keeps g.stays) c5 (by rw [← en]; exact c8 f hm lt) (X.objN x (X.mem hx)) hxC ⟨o, h1, h2, h3, .inr ⟨dx, h4, h5, h7⟩⟩ (fun h' tk' I' hk hsame => ?_) (fun y hy => fm.2 y hy) (by rw [List.length_map]; unfold sizeLine; omega)
  obtain ⟨o₁, e1, e2, e3, e4, e5⟩ := hsame o h1
  have eo : o₁ = o := by
    obtain ⟨a1, a2, a3, a4⟩ := o₁
    obtain ⟨b1, b2, b3, b4⟩ := o
    simp only at e2 e3 e4 e5 h4
    subst e2 e3 e4 h4
    rw [e5 dx rfl]
  subst eo
  have keepF : ∀ b ob, b ≠ dx → hh.get? b = some ob → h'.get? b = some ob := fun b ob nb e => by
    by_cases z : b = a
    · subst z; rw [h1] at e; cases e; exact e1
    · exact hk b ob z (fun o₀ dx' z1 z2 => by rw [h1] at z1; cases z1; rw [h4] at z2; cases z2; exact nb) e
  obtain ⟨o₂, i1, i2, i3, i4⟩ := I'
  rw [e1] at i1
  cases i1
  rcases i4 with ⟨i4, _⟩ | ⟨dx', i4, i5, i6⟩
  · rw [h4] at i4; cases i4
  rw [h4] at i4
  cases i4
  have lvd : (h'.get? dx).isSome = true := by obtain ⟨_, _, _, z, _⟩ := i6; rw [z]; rfl
  have hO : Own σ ow dx := .inr (by rw [h6]; rfl)
  have st := Stp.change (o := .inst c (co f v fs)) g ha (.inr h6) keepF tk'
  have fm' : FMap C (Zs (upd σ a (.inst c (co f v fs))) ow (zss envs)) h' (co f v fs) (fun y => if y = x then some u else mA y) := by
    refine ⟨fun f' v' e => ?_, fun y hy => ?_⟩
    · rw [vT] at e
      by_cases z : f' = f
      · subst z
        rw [if_pos rfl] at e
        cases e
        exact ⟨u, by rw [en]; simp, st.vr r⟩
      · rw [if_neg z] at e
        obtain ⟨u', e', r'⟩ := fm.1 f' v' e
        refine ⟨u', ?_, st.vr r'⟩
        have nx : C.nm f' ≠ x := fun y => z (by
          have hf' : f' < T.atN.length := by
            apply Decidable.byContradiction
            intro hn
            rw [X.nm, List.getD_eq_getElem?_getD, List.getElem?_eq_none (by omega)] at y
            exact X.ne (by rw [show Str.empty = x from y]; exact X.mem hx)
          rw [← en] at y
          rw [X.nm, X.nm, List.getD_eq_getElem?_getD, List.getD_eq_getElem?_getD, List.getElem?_eq_getElem hf', List.getElem?_eq_getElem lt] at y
          exact (List.getElem_inj X.inj).mp y)
        show (if C.nm f' = x then some u else mA (C.nm f')) = some u'
        rw [if_neg nx]; exact e'
    · have : y ∈ ((co f v fs).map (·.1)).map C.nm := by
        by_cases z : y = x
        · subst z
          exact List.mem_map.mpr ⟨f, (ql f v fs f).mp (.inr rfl), en⟩
        · have hy' : mA y ≠ Option.none := by simpa [z] using hy
          have := fm.2 y hy'
          obtain ⟨p, hp1, rfl⟩ := List.mem_map.mp this
          exact List.mem_map.mpr ⟨p.1, (ql f v fs p.1).mp (.inl (List.mem_map.mpr ⟨p, hp1, rfl⟩)), rfl⟩
      rwa [List.map_map] at this
  have z := mY f v fs
  exact k _ st (g.change (o := .inst c (co f v fs)) ha (.inr h6) keepF lvd ⟨o₁, dx, _, e1, h2, h3, h4, h5, h6, i6, ⟨hci, by omega⟩, fm'⟩ tk')
end
end Ap
end
section
namespace Ap
open PySem PySem.Calls PyProof.Rows
structure AOkF (A : Around) (envs : Vo) (d : Nat) : Prop where
  frames : A.frames = some envs.l
  depth : A.depth + 3 * d < recursionLimit
  units : A.units + 20 * d + 100 < cLine
structure AOk (A : Around) (envs : Vo) (d : Nat) : Prop where
  frames : A.frames = some envs.l
  depth : A.depth + 3 * d + 2 < recursionLimit
  units : A.units + 20 * d + 110 < cLine
theorem AOk.toF {A : Around} {envs : Vo} {d : Nat} (x : AOk A envs d) : AOkF A envs d := ⟨x.frames, by have := x.depth; omega, by have := x.units; omega⟩
theorem AOk.u64 {A : Around} {envs : Vo} {d : Nat} (x : AOk A envs d) : A.units + 64 < cLine := by have := x.units; omega
theorem AOkF.deeper {A : Around} {envs : Vo} {d : Nat} (x : AOkF A envs (d + 1)) (env : Env) (fs its : List Addr) : AOk (A.deeper env) ⟨env :: envs.l, fs, its⟩ d :=
  ⟨Around.frames_deeper x.frames, by have := x.depth; show A.depth + 1 + 3 * d + 2 < _; omega, by have := x.units; show A.units + 3 + 20 * d + 110 < _; omega⟩
theorem AOk.mark {A : Around} {envs : Vo} {d : Nat} (x : AOk A envs d) (h : Option Value) : AOk (A.mark h) envs d := ⟨x.frames, x.depth, x.units⟩
noncomputable def qOf (P : Prg) (f : Nat) : Bool := ((P.fns[f]?).map (·.quiet)).getD false
noncomputable def bT (C : Cx) (P : Prg) (d : Nat) (F : Calls) : Prop :=
  ∀ f vs vals σ ow s Qa Ea R A envs, F f vs σ Qa Ea → Good C envs σ ow s → AOkF A envs d → HOk A (qOf P f) (Zs σ ow (zss envs)) s.heap → VRs C (Zs σ ow (zss envs)) s.heap vs vals →
    KV C envs σ ow s (RV C) Qa (fun v s' => R (.ok (.ret v)) s') → KX C envs σ ow s Ea (fun e s' => R (.error e) s') → codeAny (model C.prog C.w) A (.call (.ref (C.fnA f)) ⟨vals, []⟩) R s
noncomputable def df : Expr → Bool
  | .Starred .. => false
  | _ => true
theorem cK {e : Expr} {rest : List Expr} {env : Env} (h : df e = true) : starEach (e :: rest) env = (false, eval e env) :: starEach rest env := by
  cases e <;> first | rfl | exact Bool.noConfusion h
theorem cW {es : List Expr} {env : Env} {pos : Pos} (h : es.all df = true) : (backTo pos (starEach es env)).any (·.1) = false := by
  induction es with
  | nil => rfl
  | cons e es ih =>
    rw [List.all_cons, Bool.and_eq_true] at h
    rw [cK h.1]
    show (false || (backTo pos (starEach es env)).any (·.1)) = false
    rw [ih h.2]; rfl
theorem lz {es : List Expr} {env : Env} {pos : Pos} (h : es.all df = true) : (backTo pos (starEach es env)).all (fun x => !x.1) = true := by
  induction es with
  | nil => rfl
  | cons e es ih =>
    rw [List.all_cons, Bool.and_eq_true] at h
    rw [cK h.1]
    show (true && (backTo pos (starEach es env)).all (fun x => !x.1)) = true
    rw [ih h.2]; rfl
section
variable {M : Model} {A : Around} {E : Value → Shared → Prop} {s : Shared} {env : Env}
theorem cI {f : Value} {es : List Expr} {pos : Pos} {Q : Args → Shared → Prop} (hs : es.all df = true) (h : wpAny M A (spliced (backTo pos (starEach es env))) (fun vs s' => Q ⟨vs, []⟩ s') E s) :
    wpAny M A (evalArgs f true (backTo pos (starEach es env)) []) Q E s := by
  cases es with
  | nil =>
    unfold evalArgs
    show wpAny M A (spliced (backTo pos (starEach [] env)) >>= _) Q E s
    refine wpAny_bind (wpAny_mono h (fun vs s' h' => ?_) fun _ _ x => x)
    refine wpAny_bind (wpAny_pure ?_)
    refine wpAny_holding ?_
    exact wpAny_bind (wpAny_pure (wpAny_bind (wpAny_pure (wpAny_pure h'))))
  | cons e es =>
    rw [List.all_cons, Bool.and_eq_true] at hs
    rw [cK hs.1] at h ⊢
    exact evalArgs_plain h
end
section
variable {C : Cx} {T : Tabs} {P : Prg} {A : Around} {q : Bool} {env : Env} {envs : Vo} {nms : List Str} {ρ : Loc} {σ : St} {ow : Nat → Option Nat} {s : Shared} {Qa : PQ} {Ea : PE} {Q : Value → Shared → Prop} {E : Value → Shared → Prop} {d : Nat} {F : Calls}
theorem sr {f : Nat} {vs : List AV} {vals : List Value} (hF : bT C P d F) (w : F f vs σ Qa Ea) (g : Good C envs σ ow s) (a : AOkF A envs d) (hh : HOk A (qOf P f) (Zs σ ow (zss envs)) s.heap) (r : VRs C (Zs σ ow (zss envs)) s.heap vs vals)
    (kv : KV C envs σ ow s (RV C) Qa Q) (kx : KX C envs σ ow s Ea E) : wpAny (model C.prog C.w) A (call (.ref (C.fnA f)) vals) Q E s :=
  wpAny_call (hF f vs vals σ ow s Qa Ea _ A envs w g a hh r kv kx)
theorem tR (A : Around) (cc : Addr) (rest : List Value) : (A.under (.builtin "type.__call__" ⟨.ref cc :: rest, []⟩)).frames = A.frames ∧ (A.under (.builtin "type.__call__" ⟨.ref cc :: rest, []⟩)).depth = A.depth + 1 ∧ (A.under (.builtin "type.__call__" ⟨.ref cc :: rest, []⟩)).units = A.units + 1 ∧ (A.under (.builtin "type.__call__" ⟨.ref cc :: rest, []⟩)).handled = A.handled := by
  refine ⟨rfl, ?_, ?_, rfl⟩
  · show A.depth + Code.weight _ = A.depth + 1
    rfl
  · rfl
theorem Ai {c f : Nat} {ci : ClsI} {vs : List AV} {vals : List Value} (X : CxOk C T P) (hF : bT C P d F) (hc : P.cls[c]? = some ci) (hi : ci.init = some f) (hlt : f < T.fnN.length)
    (w : ∀ a, σ a = Option.none → F f (.obj a :: vs) (upd σ a (.inst c [])) (vg a Qa) Ea)
    (g : Good C envs σ ow s) (a : AOk A envs d) (hh : HOk A (qOf P f) (Zs σ ow (zss envs)) s.heap) (r : VRs C (Zs σ ow (zss envs)) s.heap vs vals) (kv : KV C envs σ ow s (RV C) Qa Q) (kx : KX C envs σ ow s Ea E) :
    wpAny (model C.prog C.w) A (call (.ref (C.clsA c)) vals) Q E s := by
  have hci := X.ics c ci hc (by rw [hi]; exact Option.some_ne_none _)
  obtain ⟨ci', q1, q2⟩ := X.cls c hci
  rw [hc] at q1
  cases q1
  obtain ⟨nm, q, N, bs, sn, sub, col, dd, k0, k1, k2, k3, k5, mN, c1, c2, c3, c4, c5, c6, c7, c8⟩ := q2.ex
  obtain ⟨oI, fd, f1, f2, f3⟩ := X.fnF f hlt
  obtain ⟨hh', gg, dd', tt, oo⟩ := s
  refine wpAny_call_obj_init PySem.F.objNew (g.stays _ _ c1) (c2.keeps g.stays) (c6 f hi) (g.stays _ _ f1) f2 fun h' x dx hm => ?_
  obtain ⟨o, i1, i2, i3, i4⟩ := hm.inst
  have nd : dx ≠ x := by
    rcases i4 with ⟨i4, _⟩ | ⟨d', i4, i5, _⟩
    · rw [hm.dict o i1] at i4; cases i4
    · rw [hm.dict o i1] at i4; cases i4; exact i5
  have ns1 : h'.Ns1 dx fun _ => Option.none := by
    rcases i4 with ⟨i4, _⟩ | ⟨d', i4, i5, i6⟩
    · rw [hm.dict o i1] at i4; cases i4
    · rw [hm.dict o i1] at i4; cases i4; exact i6
  have noF : ∀ b, hh'.get? b = Option.none → b ∉ zss envs := fun b e m => by
    obtain ⟨_, o, e'⟩ := g.mem _ m
    have e'' : hh'.get? b = some o := e'
    rw [e] at e''; cases e''
  have sx : σ x = Option.none := by
    cases e : σ x with
    | none => rfl
    | some o =>
      obtain ⟨ob, z⟩ := g.live (b := x) (.inl (by rw [e]; rfl))
      have z' : hh'.get? x = some ob := z
      rw [hm.newX] at z'; cases z'
  have ox : ow x = Option.none := by
    cases e : ow x with
    | none => rfl
    | some o =>
      obtain ⟨ob, z⟩ := g.live (b := x) (.inr (by rw [e]; rfl))
      have z' : hh'.get? x = some ob := z
      rw [hm.newX] at z'; cases z'
  have sdx : σ dx = Option.none := by
    cases e : σ dx with
    | none => rfl
    | some o =>
      obtain ⟨ob, z⟩ := g.live (b := dx) (.inl (by rw [e]; rfl))
      have z' : hh'.get? dx = some ob := z
      rw [hm.newD] at z'; cases z'
  have odx : ow dx = Option.none := by
    cases e : ow dx with
    | none => rfl
    | some o =>
      obtain ⟨ob, z⟩ := g.live (b := dx) (.inr (by rw [e]; rfl))
      have z' : hh'.get? dx = some ob := z
      rw [hm.newD] at z'; cases z'
  -- the ghost owner of the new dict
  let ow' : Nat → Option Nat := fun b => if b = dx then some x else ow b
  have ownU : ∀ b, Own (upd σ x (.inst c [])) ow' b → Own σ ow b ∨ b = x ∨ b = dx := fun b q => by
    by_cases z1 : b = x
    · exact .inr (.inl z1)
    · by_cases z2 : b = dx
      · exact .inr (.inr z2)
      · rcases q with q | q
        · rw [cR σ _ z1] at q; exact .inl (.inl q)
        · exact .inl (.inr (by simpa [ow', z2] using q))
  have ownG : ∀ b, Own σ ow b → Own (upd σ x (.inst c [])) ow' b := fun b q => by
    rcases q with q | q
    · by_cases z1 : b = x
      · subst z1; rw [sx] at q; cases q
      · exact .inl (by rw [cR σ _ z1]; exact q)
    · by_cases z2 : b = dx
      · subst z2; rw [odx] at q; cases q
      · exact .inr (by simpa [ow', z2] using q)
  have zg : Zg (Zs σ ow (zss envs)) (Zs (upd σ x (.inst c [])) ow' (zss envs)) hh' := fun b q => by
    rcases q with q | q
    · rcases ownU b q with q | q | q
      · exact .inl (.inl q)
      · subst q; exact .inr hm.newX
      · subst q; exact .inr hm.newD
    · exact .inl (.inr q)
  have st : Stp (frs envs) (Own σ ow) (Own (upd σ x (.inst c [])) ow') ⟨hh', gg, dd', tt, oo⟩ ⟨h', gg, dd', tt, oo⟩ := by
    refine ⟨fun b o e _ _ => hm.keeps b o e, fun b o e _ => ⟨o.slots, hm.keeps b o e⟩, ownG, fun b q => ?_, rfl, rfl, rfl⟩
    rcases ownU b q with q | q | q
    · exact .inl q
    · subst q; exact .inr hm.newX
    · subst q; exact .inr hm.newD
  have bn : ∀ b, hh'.get? b = Option.none → C.base.get? b = Option.none := fun b e => by
    cases z : C.base.get? b with
    | none => rfl
    | some o => have := g.stays b o z; have : hh'.get? b = some o := this; rw [e] at this; cases this
  have gd : Good C envs (upd σ x (.inst c [])) ow' ⟨h', gg, dd', tt, oo⟩ := by
    refine ⟨fun b o e => hm.keeps b o (g.stays b o e), g.frames.of_keeps fun b o e _ => ⟨o, hm.keeps b o e, rfl⟩, g.apart, fun b m => ⟨(g.mem b m).1, (g.mem b m).2.imp fun o e => hm.keeps b o e⟩, g.sub, fun b o' e => ?_, fun b a' e => ?_, fun b e => ?_, fun L hL q => ?_, g.gens⟩
    · by_cases z : b = x
      · subst z
        rw [gF] at e
        cases e
        exact ⟨o, dx, _, i1, i2, i3, hm.dict o i1, nd, by simp [ow'], ns1, ⟨hci, by simp⟩, fun f v e => by simp [aW] at e, fun y hy => absurd rfl hy⟩
      · rw [cR σ _ z] at e
        have y := g.store b o' e
        obtain ⟨oa, ea⟩ := Option.isSome_iff_exists.mp y.live
        exact y.kp (fun b o e _ => hm.keeps b o e) zg (by rw [ea]; exact hm.keeps b oa ea) fun dx' hd => by
          obtain ⟨od, ed⟩ := Option.isSome_iff_exists.mp (g.parts dx' b hd).2.2
          refine ⟨by rw [ed]; exact hm.keeps dx' od ed, ?_⟩
          have : dx' ≠ dx := fun w => by subst w; rw [odx] at hd; cases hd
          simpa [ow', this] using hd
    · by_cases z : b = dx
      · subst z
        refine ⟨by rw [cR σ _ nd]; exact sdx, bn _ hm.newD, ?_⟩
        obtain ⟨_, _, _, z, _⟩ := ns1
        show (h'.get? b).isSome = true
        rw [z]; rfl
      · have e' : ow b = some a' := by simpa [ow', z] using e
        obtain ⟨x1, x2, x3⟩ := g.parts b a' e'
        obtain ⟨od, ed⟩ := Option.isSome_iff_exists.mp x3
        refine ⟨?_, x2, by show (h'.get? b).isSome = true; rw [hm.keeps b od ed]; rfl⟩
        rw [cR σ _ (fun q => by subst q; have ed' : hh'.get? b = some od := ed; rw [hm.newX] at ed'; cases ed')]
        exact x1
    · by_cases z : b = x
      · subst z; exact bn _ hm.newX
      · rw [cR σ _ z] at e; exact g.fresh b e
    · rcases ownU L q with q | q | q
      · exact g.off L hL q
      · subst q; exact noF _ hm.newX hL
      · subst q; exact noF _ hm.newD hL
  obtain ⟨u1, u2, u3, u4⟩ := tR A (C.clsA c) vals
  refine sr (envs := envs) (vs := .obj x :: vs) hF (w x sx) gd ⟨?_, ?_, ?_⟩ ?_ (.cons (.obj x) (st.vrs r)) ?_ ?_
  · rw [u1]; exact a.frames
  · rw [u2]; have := a.depth; omega
  · rw [u3]; have := a.units; omega
  · have h2 := hh.stp st
    unfold HOk at h2 ⊢
    rw [u4]; exact h2
  · intro v av σ'' ow'' s'' h1 h2 h3 h4
    cases h4 <;> first | exact False.elim h1 | skip
    exact ⟨rfl, kv _ _ σ'' ow'' s'' h1 (st.trans h2) h3 (.obj x)⟩
  · exact kx.stp st gd
end
end Ap
end
section
namespace Ap
open PySem PySem.Calls PyProof.Rows
section
variable {C : Cx} {T : Tabs} {P : Prg} {A : Around} {q : Bool} {env : Env} {envs : Vo} {nms : List Str} {ρ : Loc} {σ : St} {ow : Nat → Option Nat} {s : Shared} {Qa : PQ} {Ea : PE} {Q : Value → Shared → Prop} {E : Value → Shared → Prop}
noncomputable def tyV : Ty → Value
  | .int => .type "int"
  | .bool => .type "bool"
  | .str => .type "str"
  | .list => .type "list"
  | .tuple => .type "tuple"
theorem vG {t : Ty} {v : AV} {u : Value} (r : VR C (Zs σ ow (zss envs)) s.heap v u) (w : ng t v σ Qa) (h : ∀ tk, Qa (.bool (kn t v)) σ → Q (.bool (kn t v)) { s with toks := tk }) : wpAny (model C.prog C.w) A (call (.builtin "isinstance") [u, tyV t]) Q E s := by
  obtain ⟨p, w⟩ := w
  have h' := fun tk => h tk w
  cases r with
  | none => cases t <;> first | exact IsiPair.NoneType_int (h' _) | exact IsiPair.NoneType_bool (h' _) | exact IsiPair.NoneType_str (h' _) | exact IsiPair.NoneType_list (h' _) | exact IsiPair.NoneType_tuple (h' _)
  | bool b => cases t <;> first | exact IsiPair.bool_int (h' _) | exact IsiPair.bool_bool (h' _) | exact IsiPair.bool_str (h' _) | exact IsiPair.bool_list (h' _) | exact IsiPair.bool_tuple (h' _)
  | int i _ => cases t <;> first | exact IsiPair.int_int (h' _) | exact IsiPair.int_bool (h' _) | exact IsiPair.int_str (h' _) | exact IsiPair.int_list (h' _) | exact IsiPair.int_tuple (h' _)
  | str x _ _ => cases t <;> first | exact IsiPair.str_int (h' _) | exact IsiPair.str_bool (h' _) | exact IsiPair.str_str (h' _) | exact IsiPair.str_list (h' _) | exact IsiPair.str_tuple (h' _)
  | ilist at_ off r =>
    obtain ⟨_, n, hx⟩ := at_
    cases t <;> first | exact IsiPair.list_int hx rfl (h' _) | exact IsiPair.list_bool hx rfl (h' _) | exact IsiPair.list_str hx rfl (h' _) | exact IsiPair.list_list hx rfl (h' _) | exact IsiPair.list_tuple hx rfl (h' _)
  | tup at_ off r =>
    obtain ⟨_, n, hx⟩ := at_
    cases t <;> first | exact IsiPair.tuple_int hx rfl (h' _) | exact IsiPair.tuple_bool hx rfl (h' _) | exact IsiPair.tuple_str hx rfl (h' _) | exact IsiPair.tuple_list hx rfl (h' _) | exact IsiPair.tuple_tuple hx rfl (h' _)
  | obj a => cases p
  | exn a b c d e f => cases p
end
end Ap
end
section
set_option genSizeOf false
namespace Ap
open PySem PySem.Calls PyProof.Rows
structure Xc (fs : List Addr) (e : Addr) (t : Option (Addr × Value)) (h h' : Heap) : Prop where
  keep : ∀ b o, h.get? b = some o → b ∉ fs → ((b ≠ e ∧ ∀ fl, t ≠ some (b, fl)) ∨ ∀ vs, o.data ≠ .fields vs) → h'.get? b = some o
  frm : ∀ b o, h.get? b = some o → (∀ vs, o.data ≠ .fields vs) → ∃ sl, h'.get? b = some { o with slots := sl }
  fld : ∀ b o vs, h.get? b = some o → o.data = .fields vs → ∃ o' vs', h'.get? b = some o' ∧ o'.cls = o.cls ∧ o'.dict = o.dict ∧ o'.data = .fields vs' ∧ vs'[2]? = vs[2]?
theorem Xc.refl (fs : List Addr) (e : Addr) (t : Option (Addr × Value)) (h : Heap) : Xc fs e t h h := ⟨fun _ _ e _ _ => e, fun _ o e _ => ⟨o.slots, e⟩, fun _ o vs e d => ⟨o, vs, e, rfl, rfl, d, rfl⟩⟩
theorem Xc.live {fs : List Addr} {e : Addr} {t : Option (Addr × Value)} {h h' : Heap} (x : Xc fs e t h h') {b : Addr} {o : Obj} (eb : h.get? b = some o) : ∃ o', h'.get? b = some o' := by
  by_cases q : ∃ vs, o.data = .fields vs
  · obtain ⟨vs, d⟩ := q
    obtain ⟨o', _, z, _⟩ := x.fld b o vs eb d
    exact ⟨o', z⟩
  · obtain ⟨sl, z⟩ := x.frm b o eb fun vs d => q ⟨vs, d⟩
    exact ⟨_, z⟩
section
variable {M : Model} {A : Around} {E : Value → Shared → Prop} {s : Shared} {env : Env}
theorem ix {h : Heap} {a : Addr} {o : Obj} {vs : Array Value} (i : Nat) (x : Value) (ho : h.get? a = some o) (hd : o.data = .fields vs) :
    (h.update a (Obj.mapFields (·.setIfInBounds i x))).get? a = some { o with data := .fields (vs.setIfInBounds i x) } ∧ ∀ b, b ≠ a → (h.update a (Obj.mapFields (·.setIfInBounds i x))).get? b = h.get? b := by
  have hd' := Obj.data_mapFields hd (·.setIfInBounds i x)
  refine ⟨?_, fun b hb => Heap.get?_update_other _ _ (Ne.symm hb)⟩
  rw [Heap.get?_update_self (Obj.mapFields (·.setIfInBounds i x)) ho (Obj.isFreed_of_fields hd')]
  obtain ⟨c1, c2, c3, c4⟩ := o
  simp only at hd
  subst hd
  rfl
theorem tH {e T : Addr} {cls fl : Value} {f : Option Addr} {Q : Unit → Shared → Prop} (x : ExO s.heap e cls (some (T, fl)))
    (h : ∀ h', Xc [] e (some (T, fl)) s.heap h' → ExO h' e cls (some (T, f.elim .none fun f => rawInt f)) → Q () { s with heap := h' }) : wpAny M A (setFlight (.ref e) f) Q E s := by
  obtain ⟨oe, vs, a0, x1, x2, x3, x4, x5, x6, x7, x8, oT, ts, x9, x10, x11⟩ := x
  unfold setFlight
  refine wpAny_bind (wpAny_field x1 x4 x7 ?_)
  rw [if_pos (show (Value.ref T != Value.none) = true from by simp)]
  have h3 := (Array.getElem?_eq_some_iff.mp x11).1
  refine wpAny_setField x9 x10 h3 ?_
  obtain ⟨u1, u2⟩ := ix 3 (f.elim Value.none fun f => rawInt f) x9 x10
  have ne : ∀ b o, s.heap.get? b = some o → (∀ vs, o.data ≠ .fields vs) → b ≠ T := fun b o eb nd q => by subst q; rw [x9] at eb; cases eb; exact nd _ x10
  refine h _ ⟨fun b o eb _ nb => (u2 b (nb.elim (fun nb q => nb.2 fl (by rw [q])) (ne b o eb))).trans eb, fun b o eb nd => ⟨o.slots, (u2 b (ne b o eb nd)).trans eb⟩, fun b o ws eb db => ?_⟩ ⟨oe, vs, a0, (u2 e (Ne.symm x8)).trans x1, x2, x3, x4, x5, x6, x7, x8, _, _, u1, rfl, by simp [h3]⟩
  by_cases q : b = T
  · subst q
    rw [x9] at eb
    cases eb
    rw [x10] at db
    cases db
    exact ⟨_, _, u1, rfl, rfl, rfl, by simp⟩
  · exact ⟨o, ws, (u2 b q).trans eb, rfl, rfl, db, rfl⟩
theorem xP {base : Heap} {outer : List Env} {L e : Addr} {cls : Value} {t : Option (Addr × Value)} {Q : Unit → Shared → Prop}
    (hfr : A.frames = some (env :: outer)) (hl : s.heap.FunFrames base (env :: outer)) (hf : env.frame = some L) (x : ExO s.heap e cls t)
    (h : ∀ h' T', Xc ((env :: outer).filterMap (·.frame)) e t s.heap h' → ExO h' e cls (some (T', rawInt L)) → (s.heap.get? T' = Option.none ∨ ∃ fl, t = some (T', fl)) → Q () { s with heap := h' }) :
    wpAny M A (noteFrame (.ref e) env) Q E s := by
  have entry : ∀ (s₁ : Shared) (oe : Obj) (vs : Array Value) (head a0 : Value) (b : Bool) (Q' : Unit → Shared → Prop), s₁.heap.FunFrames base (env :: outer) → s₁.heap.get? e = some oe → oe.data = .fields vs → 1 < vs.size →
      (∀ h', (∀ b o, s₁.heap.get? b = some o → b ≠ e → b ∉ (env :: outer).filterMap (·.frame) → h'.get? b = some o) → (∀ b o, s₁.heap.get? b = some o → b ∈ (env :: outer).filterMap (·.frame) → ∃ sl, h'.get? b = some { o with slots := sl }) →
        (∃ T' oT ts, s₁.heap.get? T' = Option.none ∧ T' ≠ e ∧ h'.get? e = some { oe with data := .fields (vs.setIfInBounds 1 (.ref T')) } ∧ h'.get? T' = some oT ∧ oT.data = .fields ts ∧ ts[3]? = some (rawInt L)) → Q' () { s₁ with heap := h' }) →
      wpAny M A (do setField (.ref e) 1 (← EntryCells.newEntry head (← frameOf env) .none (rawInt L) .none (← entryPlaceOf L b))) Q' E s₁ := by
    intro s₁ oe vs head a0 b Q' hl he hd hsz hQ
    have hene : e ∉ (env :: outer).filterMap (·.frame) := fun hm => by
      obtain ⟨_, o, ho, hnf⟩ := hl.mem hm
      rw [he] at ho; injection ho with ho; subst ho; exact hnf vs hd
    refine wpAny_bind (wpAny_frameOf_fun hfr hl hf fun h₁ hs₁ => ?_)
    refine wpAny_bind (wpAny_entryPlaceOf fun pl hpl => ?_)
    unfold EntryCells.newEntry newFields
    refine wpAny_bind (wpAny_newObj_type ?_ (hpl.sizeOk5 _ _ _ _ _))
    have he₁ : h₁.get? e = some oe := (hs₁.2.1 e hene).trans he
    have he₂ := Heap.get?_push_of_some (h := h₁) { cls := .type "traceback", dict := none, data := .fields ([head, .ref L, .none, rawInt L, .none] ++ (if pl.isEmpty then List.replicate 6 Value.none else pl)).toArray } he₁
    refine wpAny_setField he₂ hd hsz ?_
    have hTe : h₁.objs.size ≠ e := Nat.ne_of_gt (Heap.lt_size he₁)
    obtain ⟨u1, u2⟩ := ix 1 (Value.ref h₁.objs.size) he₂ hd
    refine hQ _ (fun b o eb ne nf => ?_) (fun b o eb m => ?_) ⟨h₁.objs.size, _, _, ?_, hTe, u1, (u2 _ hTe).trans (Heap.get?_push_size h₁ rfl), rfl, ?_⟩
    · exact (u2 b ne).trans (Heap.get?_push_of_some _ ((hs₁.2.1 b nf).trans eb))
    · obtain ⟨sl, hs⟩ := hs₁.2.2 b o eb
      exact ⟨sl, (u2 b fun q => hene (q ▸ m)).trans (Heap.get?_push_of_some _ hs)⟩
    · cases z : s₁.heap.get? h₁.objs.size with
      | none => rfl
      | some o =>
        obtain ⟨sl, hs⟩ := hs₁.2.2 _ o z
        exact absurd (Heap.lt_size hs) (Nat.lt_irrefl _)
    · rcases hpl with rfl | ⟨_, _, _, _, _, _, _, rfl⟩ <;> simp
  obtain ⟨oe, vs, a0, x1, x2, x3, x4, x5, x6, x7⟩ := x
  unfold noteFrame
  simp only [hf]
  cases t with
  | none =>
    refine wpAny_bind (wpAny_field x1 x4 x7 ?_)
    rw [if_neg (by decide)]
    have hsz := (Array.getElem?_eq_some_iff.mp x7).1
    refine entry s oe vs .none a0 _ Q hl x1 x4 hsz fun h' k1 k2 ⟨T', oT, ts, y1, y2, y3, y4, y5, y6⟩ => ?_
    have ne : ∀ b o, s.heap.get? b = some o → (∀ vs, o.data ≠ .fields vs) → b ≠ e := fun b o eb nd q => by subst q; rw [x1] at eb; cases eb; exact nd _ x4
    refine h h' T' ⟨fun b o eb nf nb => k1 b o eb (nb.elim (fun z => z.1) (ne b o eb)) nf, fun b o eb nd => ?_, fun b o ws eb db => ?_⟩ ⟨_, _, a0, y3, x2, x3, rfl, by simpa using x5, by simpa using x6, by simp [hsz], y2, oT, ts, y4, y5, y6⟩ (.inl y1)
    · by_cases m : b ∈ (env :: outer).filterMap (·.frame)
      · exact k2 b o eb m
      · exact ⟨o.slots, k1 b o eb (ne b o eb nd) m⟩
    by_cases q : b = e
    · subst q
      rw [x1] at eb
      cases eb
      rw [x4] at db
      cases db
      exact ⟨_, _, y3, rfl, rfl, rfl, by simp⟩
    · by_cases m : b ∈ (env :: outer).filterMap (·.frame)
      · obtain ⟨_, o', ho', hnf⟩ := hl.mem m
        rw [eb] at ho'
        cases ho'
        exact absurd db (hnf ws)
      · exact ⟨o, ws, k1 b o eb q m, rfl, rfl, db, rfl⟩
  | some p =>
    obtain ⟨T, fl⟩ := p
    obtain ⟨x7, x8, oT, ts, x9, x10, x11⟩ := x7
    refine wpAny_bind (wpAny_field x1 x4 x7 ?_)
    rw [if_pos (show (Value.ref T != Value.none) = true from by simp)]
    refine wpAny_bind (wpAny_field x9 x10 x11 ?_)
    by_cases hq : (fl == rawInt L) = true
    · rw [if_pos hq]
      rw [beq_iff_eq] at hq
      subst hq
      exact wpAny_pure (h s.heap T (Xc.refl _ _ _ _) ⟨oe, vs, a0, x1, x2, x3, x4, x5, x6, x7, x8, oT, ts, x9, x10, x11⟩ (.inr ⟨_, rfl⟩))
    · rw [if_neg hq]
      have h3 := (Array.getElem?_eq_some_iff.mp x11).1
      have hsz := (Array.getElem?_eq_some_iff.mp x7).1
      refine wpAny_bind (wpAny_setField x9 x10 h3 ?_)
      obtain ⟨u1, u2⟩ := ix 3 Value.none x9 x10
      have hl' : (s.heap.update T (Obj.mapFields (·.setIfInBounds 3 Value.none))).FunFrames base (env :: outer) := hl.of_keeps fun b o hb hnf => ⟨o, (u2 b fun q => by subst q; rw [x9] at hb; cases hb; exact hnf _ x10).trans hb, rfl⟩
      refine entry { s with heap := s.heap.update T (Obj.mapFields (·.setIfInBounds 3 Value.none)) } oe vs (.ref T) a0 _ Q hl' ((u2 e (Ne.symm x8)).trans x1) x4 hsz fun h' k1 k2 ⟨T', oT', ts', y1, y2, y3, y4, y5, y6⟩ => ?_
      have nTf : T ∉ (env :: outer).filterMap (·.frame) := fun hm => by
        obtain ⟨_, o, ho, hnf⟩ := hl.mem hm
        rw [x9] at ho; injection ho with ho; subst ho; exact hnf ts x10
      have sT : h'.get? T = some { oT with data := .fields (ts.setIfInBounds 3 Value.none) } := k1 T _ u1 x8 nTf
      have ne : ∀ b o, s.heap.get? b = some o → (∀ vs, o.data ≠ .fields vs) → b ≠ e ∧ b ≠ T := fun b o eb nd => ⟨fun q => by subst q; rw [x1] at eb; cases eb; exact nd _ x4, fun q => by subst q; rw [x9] at eb; cases eb; exact nd _ x10⟩
      have keepB : ∀ b o, s.heap.get? b = some o → b ≠ e → b ≠ T → b ∉ (env :: outer).filterMap (·.frame) → h'.get? b = some o := fun b o eb n1 n2 nf => k1 b o ((u2 b n2).trans eb) n1 nf
      refine h h' T' ⟨fun b o eb nf nb => nb.elim (fun z => keepB b o eb z.1 (fun q => z.2 fl (by rw [q])) nf) fun z => keepB b o eb (ne b o eb z).1 (ne b o eb z).2 nf, fun b o eb nd => ?_, fun b o ws eb db => ?_⟩ ⟨_, _, a0, y3, x2, x3, rfl, by simpa using x5, by simpa using x6, by simp [hsz], y2, oT', ts', y4, y5, y6⟩ (.inl ?_)
      · by_cases m : b ∈ (env :: outer).filterMap (·.frame)
        · exact k2 b o ((u2 b (ne b o eb nd).2).trans eb) m
        · exact ⟨o.slots, keepB b o eb (ne b o eb nd).1 (ne b o eb nd).2 m⟩
      · by_cases q : b = e
        · subst q
          rw [x1] at eb
          cases eb
          rw [x4] at db
          cases db
          exact ⟨_, _, y3, rfl, rfl, rfl, by simp⟩
        · by_cases q' : b = T
          · subst q'
            rw [x9] at eb
            cases eb
            rw [x10] at db
            cases db
            exact ⟨_, _, sT, rfl, rfl, rfl, by simp⟩
          · by_cases m : b ∈ (env :: outer).filterMap (·.frame)
            · obtain ⟨_, o', ho', hnf⟩ := hl.mem m
              rw [eb] at ho'
              cases ho'
              exact absurd db (hnf ws)
            · exact ⟨o, ws, k1 b o ((u2 b q').trans eb) q m, rfl, rfl, db, rfl⟩
      · by_cases q : T' = T
        · subst q
          have y1' : (s.heap.update T' (Obj.mapFields (·.setIfInBounds 3 Value.none))).get? T' = Option.none := y1
          rw [u1] at y1'; cases y1'
        · have y1' : (s.heap.update T (Obj.mapFields (·.setIfInBounds 3 Value.none))).get? T' = Option.none := y1
          rw [u2 T' q] at y1'; exact y1'
end
end Ap
end
section
set_option genSizeOf false
namespace Ap
open PySem PySem.Calls PyProof.Rows
structure SStp (X fs : List Addr) (O O' : Nat → Prop) (s s' : Shared) : Prop where
  keep : ∀ b o, s.heap.get? b = some o → ¬ O b → b ∉ fs → s'.heap.get? b = some o
  frm : ∀ b o, s.heap.get? b = some o → b ∈ fs → b ∉ X → ∃ sl, s'.heap.get? b = some { o with slots := sl }
  liv : ∀ b o, s.heap.get? b = some o → b ∈ fs → ∃ o', s'.heap.get? b = some o'
  grow : ∀ b, O b → O' b
  fresh : ∀ b, O' b → O b ∨ s.heap.get? b = Option.none
  gens : s'.gens = s.gens
  drawn : s'.drawn = s.drawn
  os : s'.os = s.os
theorem Stp.toS {X fs : List Addr} {O O' : Nat → Prop} {s s' : Shared} (x : Stp fs O O' s s') : SStp X fs O O' s s' :=
  ⟨x.keep, fun b o e m _ => x.frm b o e m, fun b o e m => (x.frm b o e m).elim fun _ z => ⟨_, z⟩, x.grow, x.fresh, x.gens, x.drawn, x.os⟩
theorem SStp.refl (X fs : List Addr) (O : Nat → Prop) (s : Shared) : SStp X fs O O s s := (Stp.refl fs O s).toS
theorem SStp.trans {X fs : List Addr} {O₁ O₂ O₃ : Nat → Prop} {s₁ s₂ s₃ : Shared} (x : SStp X fs O₁ O₂ s₁ s₂) (y : SStp X fs O₂ O₃ s₂ s₃) : SStp X fs O₁ O₃ s₁ s₃ where
  keep := fun b o e n m => y.keep b o (x.keep b o e n m) (fun q => (x.fresh b q).elim n fun z => by rw [e] at z; cases z) m
  frm := fun b o e m n => by
    obtain ⟨sl, e1⟩ := x.frm b o e m n
    obtain ⟨sl', e2⟩ := y.frm b _ e1 m n
    exact ⟨sl', e2⟩
  liv := fun b o e m => by
    obtain ⟨o', e1⟩ := x.liv b o e m
    exact y.liv b _ e1 m
  grow := fun b z => y.grow b (x.grow b z)
  fresh := fun b z => by
    by_cases q : O₁ b
    · exact .inl q
    · refine .inr ?_
      rcases y.fresh b z with z | z
      · exact (x.fresh b z).elim (fun w => absurd w q) id
      · cases e : s₁.heap.get? b with
        | none => rfl
        | some o =>
          by_cases m : b ∈ fs
          · obtain ⟨sl, e1⟩ := x.liv b o e m
            rw [e1] at z; cases z
          · rw [x.keep b o e q m] at z; cases z
  gens := y.gens.trans x.gens
  drawn := y.drawn.trans x.drawn
  os := y.os.trans x.os
theorem SStp.kp {X fs zs : List Addr} {O O' : Nat → Prop} {s s' : Shared} (x : SStp X fs O O' s s') (hs : ∀ b ∈ fs, b ∈ zs) : Kp (fun b => O b ∨ b ∈ zs) s.heap s'.heap := fun b o e n => x.keep b o e (fun q => n (.inl q)) fun q => n (.inr (hs b q))
theorem SStp.zg {X fs zs : List Addr} {O O' : Nat → Prop} {s s' : Shared} (x : SStp X fs O O' s s') : Zg (fun b => O b ∨ b ∈ zs) (fun b => O' b ∨ b ∈ zs) s.heap := fun b q => by
  rcases q with q | q
  · exact (x.fresh b q).imp .inl id
  · exact .inl (.inr q)
theorem SStp.vr {C : Cx} {X : List Addr} {envs : Vo} {σ σ' : St} {ow ow' : Nat → Option Nat} {s s' : Shared} (x : SStp X envs.fs (Own σ ow) (Own σ' ow') s s') {v : AV} {u : Value} (r : VR C (Zs σ ow (zss envs)) s.heap v u) : VR C (Zs σ' ow' (zss envs)) s'.heap v u := r.kp (x.kp envs.sub) x.zg
theorem SStp.vrs {C : Cx} {X : List Addr} {envs : Vo} {σ σ' : St} {ow ow' : Nat → Option Nat} {s s' : Shared} (x : SStp X envs.fs (Own σ ow) (Own σ' ow') s s') {v : List AV} {u : List Value} (r : VRs C (Zs σ ow (zss envs)) s.heap v u) : VRs C (Zs σ' ow' (zss envs)) s'.heap v u := r.kp (x.kp envs.sub) x.zg
theorem SStp.back {X fs : List Addr} {C : Cx} {σ σ' : St} {ow ow' : Nat → Option Nat} {s s' : Shared} (x : SStp X fs (Own σ ow) (Own σ' ow') s s') {envs : Vo} (g' : Good C envs σ' ow' s') (b : Addr) (n : s'.heap.get? b = Option.none) : s.heap.get? b = Option.none := by
  cases e : s.heap.get? b with
  | none => rfl
  | some o =>
    exfalso
    by_cases q : Own σ ow b
    · obtain ⟨ob, z⟩ := g'.live (x.grow b q)
      rw [n] at z; cases z
    · by_cases m : b ∈ fs
      · obtain ⟨o', z⟩ := x.liv b o e m
        rw [n] at z; cases z
      · rw [x.keep b o e q m] at n; cases n
theorem HOk.sstp {A : Around} {q : Bool} {X : List Addr} {envs : Vo} {σ σ' : St} {ow ow' : Nat → Option Nat} {s s' : Shared} (x : SStp X envs.fs (Own σ ow) (Own σ' ow') s s') (h : HOk A q (Zs σ ow (zss envs)) s.heap) : HOk A q (Zs σ' ow' (zss envs)) s'.heap := by
  rcases h with h | ⟨hq, e, o, vs, h1, h2, h3, h4, h5⟩
  · exact .inl h
  · exact .inr ⟨hq, e, o, vs, h1, x.kp envs.sub _ _ h2 h5, h3, h4, x.zg.not h2 h5⟩
structure FEnv (env : Env) (nms : List Str) (envs : Vo) (outer : List Env) : Prop where
  l : envs.l = env :: outer
  kind : env.scope.kind = .function
  frame : env.frame = some env.locals
  inF : env.locals ∈ envs.fs
  cel : ∀ x c, env.cells.lookup x = some c → c ∈ envs.fs ∧ c ≠ env.locals
  apart : ∀ x y c, env.cells.lookup x = some c → env.cells.lookup y = some c → x = y
  nodup : nms.Nodup
  kinds : ∀ x ∈ nms, env.kindOf x = some .local ∨ env.kindOf x = some .cell ∧ ∃ c, env.cells.lookup x = some c
noncomputable abbrev eu (env : Env) : List Addr := env.locals :: env.cells.map (·.2)
structure SOk (C : Cx) (A : Around) (q : Bool) (env : Env) (envs : Vo) (nms : List Str) (ρ : Loc) (σ : St) (ow : Nat → Option Nat) (s : Shared) : Prop where
  ok : Ok C A q env envs nms ρ σ ow s
  ns : ∃ m, s.heap.Ns env.locals m
  cells : ∀ x c, env.cells.lookup x = some c → ∃ v, s.heap.IsCell c v
inductive RF (C : Cx) (Z : Nat → Prop) (h : Heap) : Fl → Flow → Prop
  | next : RF C Z h .next .next
  | ret {v : AV} {u : Value} (r : VR C Z h v u) : RF C Z h (.ret v) (.ret u)
noncomputable def KS (C : Cx) (A : Around) (q : Bool) (env : Env) (envs : Vo) (nms : List Str) (σ : St) (ow : Nat → Option Nat) (s : Shared) (Qa : QS) (Q : Flow → Shared → Prop) : Prop :=
  ∀ fl af ρ' σ' ow' s', Qa af ρ' σ' → SStp (eu env) envs.fs (Own σ ow) (Own σ' ow') s s' → SOk C A q env envs nms ρ' σ' ow' s' → RF C (Zs σ' ow' (zss envs)) s'.heap af fl → Q fl s'
noncomputable def KXS (C : Cx) (A : Around) (q : Bool) (env : Env) (envs : Vo) (nms : List Str) (σ : St) (ow : Nat → Option Nat) (s : Shared) (Ea : ES) (E : Value → Shared → Prop) : Prop :=
  ∀ e c ρ' σ' ow' s', Ea c ρ' σ' → SStp (eu env) envs.fs (Own σ ow) (Own σ' ow') s s' → SOk C A q env envs nms ρ' σ' ow' s' → BL C env.locals (Zs σ' ow' (zss envs)) s.heap e c s'.heap → E (.ref e) s'
noncomputable def Cj (C : Cx) (A : Around) (q : Bool) (env : Env) (envs : Vo) (nms : List Str) (t : Sem Flow) (W : Loc → St → QS → ES → Prop) : Prop :=
  ∀ ρ σ ow s Qa Ea Q E, W ρ σ Qa Ea → SOk C A q env envs nms ρ σ ow s → KS C A q env envs nms σ ow s Qa Q → KXS C A q env envs nms σ ow s Ea E → wpAny (model C.prog C.w) A t Q E s
section
variable {C : Cx} {A : Around} {q : Bool} {env : Env} {envs : Vo} {nms : List Str} {ρ : Loc} {σ σ' : St} {ow ow' : Nat → Option Nat} {s s' : Shared} {outer : List Env}
theorem KS.stp {Qa : QS} {Q : Flow → Shared → Prop} (x : SStp (eu env) envs.fs (Own σ ow) (Own σ' ow') s s') (k : KS C A q env envs nms σ ow s Qa Q) : KS C A q env envs nms σ' ow' s' Qa Q :=
  fun fl af ρ' σ'' ow'' s'' a y g r => k fl af ρ' σ'' ow'' s'' a (x.trans y) g r
theorem KXS.stp {Ea : ES} {E : Value → Shared → Prop} (x : SStp (eu env) envs.fs (Own σ ow) (Own σ' ow') s s') (g : Good C envs σ' ow' s') (k : KXS C A q env envs nms σ ow s Ea E) : KXS C A q env envs nms σ' ow' s' Ea E :=
  fun e c ρ' σ'' ow'' s'' a y g' t => k e c ρ' σ'' ow'' s'' a (x.trans y) g' (ThrA.up (x.back g) t)
theorem SOk.stp (F : FEnv env nms envs outer) (k : SOk C A q env envs nms ρ σ ow s) (x : Stp (frs envs) (Own σ ow) (Own σ' ow') s s') (g : Good C envs σ' ow' s') : SOk C A q env envs nms ρ σ' ow' s' where
  ok := k.ok.stp x g
  ns := k.ns.imp fun m h => Ns.slots (x.up (fun q => k.ok.good.off _ (envs.sub _ F.inF) q)) h
  cells := fun y c hc => by
    obtain ⟨v, o, e, d⟩ := k.cells y c hc
    obtain ⟨sl, e'⟩ := x.up (fun q => k.ok.good.off _ (envs.sub _ (F.cel y c hc).1) q) o e
    exact ⟨v, _, e', d⟩
theorem KXS.toE (F : FEnv env nms envs outer) (k : SOk C A q env envs nms ρ σ ow s) {Ea : ES} {E : Value → Shared → Prop} (kx : KXS C A q env envs nms σ ow s Ea E) : KX C envs σ ow s (fun c σ' => Ea c ρ σ') E :=
  fun e c σ' ow' s' a x g t => kx e c ρ σ' ow' s' a x.toS (k.stp F x g) (t.mono (fun _ z => .inl z) fun _ z => z)
theorem Good.touch {h' : Heap} {d : Addr} (G : Good C envs σ ow s) (hd : d ∈ envs.fs) (k : ∀ b ob, b ≠ d → s.heap.get? b = some ob → h'.get? b = some ob) (kl : ∃ o, h'.get? d = some o ∧ ∀ vs, o.data ≠ .fields vs) (t : Nat) : Good C envs σ ow { s with heap := h', toks := t } := by
  have hO : ¬ Own σ ow d := G.off d (envs.sub _ hd)
  have hK : Kp (Zs σ ow (zss envs)) s.heap h' := fun b ob e n => k b ob (fun q => n (.inr (envs.sub _ (q ▸ hd)))) e
  have hE : ∀ b, (s.heap.get? b).isSome = true → b ≠ d → h'.get? b = s.heap.get? b := fun b hl nd => by
    obtain ⟨ob, e⟩ := Option.isSome_iff_exists.mp hl
    rw [e]; exact k b ob nd e
  refine ⟨fun b ob e => ?_, ?_, G.apart, fun b m => ?_, G.sub, fun b o' e => ?_, fun b c e => ?_, G.fresh, G.off, G.gens⟩
  · exact k b ob (fun q => by subst q; rw [(G.mem _ (envs.sub _ hd)).1] at e; cases e) (G.stays b ob e)
  · have : ∀ l : List Env, s.heap.FunFrames C.base l → h'.FunFrames C.base l := by
      intro l
      induction l with
      | nil => intro _; trivial
      | cons env r ih =>
        rintro ⟨hk, ⟨L, ob, hf, hb, ho, hdt⟩, hr⟩
        by_cases q : L = d
        · subst q
          obtain ⟨o', e1, e2⟩ := kl
          exact ⟨hk, ⟨_, o', hf, hb, e1, e2⟩, ih hr⟩
        · exact ⟨hk, ⟨L, ob, hf, hb, k L ob q ho, hdt⟩, ih hr⟩
    exact this envs.l G.frames
  · obtain ⟨x, ob, e⟩ := G.mem b m
    by_cases q : b = d
    · subst q
      obtain ⟨o', e1, _⟩ := kl
      exact ⟨x, o', e1⟩
    · exact ⟨x, ob, k b ob q e⟩
  · have nb : b ≠ d := fun z => hO (z ▸ .inl (by rw [e]; rfl))
    exact (G.store b o' e).kp hK (Zg.refl _ _) (hE b (G.store b o' e).live nb) fun dx hdx => ⟨hE dx (G.parts _ _ hdx).2.2 (fun z => hO (z ▸ .inr (by rw [hdx]; rfl))), hdx⟩
  · obtain ⟨x1, x2, x3⟩ := G.parts b c e
    refine ⟨x1, x2, ?_⟩
    show (h'.get? b).isSome = true
    rw [hE b x3 (fun z => hO (z ▸ .inr (by rw [e]; rfl)))]; exact x3
theorem SStp.touch {h' : Heap} {d : Addr} {t : Nat} {X fs : List Addr} (O : Nat → Prop) (hx : d ∈ X) (hd : d ∈ fs) (k : ∀ b ob, b ≠ d → s.heap.get? b = some ob → h'.get? b = some ob) (kl : ∃ o, h'.get? d = some o) : SStp X fs O O s { s with heap := h', toks := t } where
  keep := fun b o e _ m => k b o (fun q => m (q ▸ hd)) e
  frm := fun b o e _ n => ⟨o.slots, k b o (fun q => n (q ▸ hx)) e⟩
  liv := fun b o e _ => by
    by_cases q : b = d
    · subst q; exact kl
    · exact ⟨o, k b o q e⟩
  grow := fun _ x => x
  fresh := fun _ x => .inl x
  gens := rfl
  drawn := rfl
  os := rfl
theorem jM {ρ : Loc} {i j : Nat} {v w : AV} (h : fJ (cY ρ i v) j = some w) : j = i ∧ w = v ∨ j ≠ i ∧ fJ ρ j = some w := by
  unfold fJ cY at *
  rw [List.getD_eq_getElem?_getD] at h ⊢
  by_cases q : j = i
  · subst q
    left
    rw [List.getElem?_set] at h
    simp only [if_true] at h
    split at h
    · simp at h; exact ⟨rfl, h.symm⟩
    · simp at h
  · right
    rw [List.getElem?_set_ne (Ne.symm q)] at h
    exact ⟨q, h⟩
theorem dQ (F : FEnv env nms envs outer) {i : Nat} {x : Str} {v : AV} {u : Value} {Q : Unit → Shared → Prop} {E : Value → Shared → Prop} (hx : nms[i]? = some x) (k : SOk C A q env envs nms ρ σ ow s) (r : VR C (Zs σ ow (zss envs)) s.heap v u)
    (K : ∀ s', SStp (eu env) envs.fs (Own σ ow) (Own σ ow) s s' → SOk C A q env envs nms (cY ρ i v) σ ow s' → Q () s') : wpAny (model C.prog C.w) A (storeName env x u) Q E s := by
  have hmem : x ∈ nms := List.mem_of_getElem? hx
  have other : ∀ j y, nms[j]? = some y → j ≠ i → y ≠ x := fun j y hy ne e => by
    subst e
    have h1 := List.getElem?_eq_some_iff.mp hy
    have h2 := List.getElem?_eq_some_iff.mp hx
    exact ne ((List.getElem_inj F.nodup).mp (h1.2.trans h2.2.symm))
  rcases F.kinds x hmem with hl | ⟨hl, c, hc⟩
  · obtain ⟨m, hn⟩ := k.ns
    refine wpAny_storeName_local hl hn (fun h' hn' hs => ?_) (by rw [F.kind]; rfl)
    have hk : ∀ b ob, b ≠ env.locals → s.heap.get? b = some ob → h'.get? b = some ob := fun b ob nb e => (hs.2 b nb).trans e
    have hlv : ∃ o, h'.get? env.locals = some o ∧ ∀ vs, o.data ≠ .fields vs := by
      obtain ⟨o, es, ep, ho, hd, _⟩ := hn'
      exact ⟨o, ho, fun vs q => by rw [hd] at q; cases q⟩
    have st : SStp (eu env) envs.fs (Own σ ow) (Own σ ow) s { s with heap := h', toks := s.toks + 1 } := SStp.touch _ List.mem_cons_self F.inF hk (let ⟨o, e, _⟩ := hlv; ⟨o, e⟩)
    refine K _ st ⟨⟨k.ok.good.touch F.inF hk hlv _, ⟨k.ok.loc.kind, k.ok.loc.glob, k.ok.loc.blt, k.ok.loc.offL, fun j w e => ?_⟩, k.ok.hnd.sstp st, let ⟨o, e, _⟩ := hlv; ⟨o, e⟩⟩, ⟨_, hn'⟩, fun y c hc => ?_⟩
    · rcases jM e with ⟨rfl, rfl⟩ | ⟨nj, e⟩
      · exact ⟨x, u, hx, st.vr r, .inl ⟨hl, _, hn', by simp⟩⟩
      · obtain ⟨y, val, ey, ry, ly⟩ := k.ok.loc.val j w e
        refine ⟨y, val, ey, st.vr ry, ?_⟩
        rcases ly with ⟨kd, m', hns, hm⟩ | ⟨c, kd, hc, ⟨o, eo, d⟩, hz⟩
        · refine .inl ⟨kd, _, hn', ?_⟩
          rw [if_neg (other j y ey nj)]
          obtain ⟨o1, es1, ep1, a1, a2, _, a3⟩ := hn
          obtain ⟨o2, es2, ep2, b1, b2, _, b3⟩ := hns
          rw [a1] at b1
          cases b1
          rw [a2] at b2
          cases b2
          rw [← a3, b3]; exact hm
        · exact .inr ⟨c, kd, hc, ⟨o, hk _ _ (F.cel y c hc).2 eo, d⟩, hz⟩
    · obtain ⟨v', o, eo, d⟩ := k.cells y c hc
      exact ⟨v', o, hk _ _ (F.cel y c hc).2 eo, d⟩
  · obtain ⟨v₀, hv⟩ := k.cells x c hc
    refine wpAny_storeName_cell F.kind hl hc hv fun h' hc' hs => ?_
    have hk : ∀ b ob, b ≠ c → s.heap.get? b = some ob → h'.get? b = some ob := fun b ob nb e => (hs.2 b nb).trans e
    have hlv : ∃ o, h'.get? c = some o ∧ ∀ vs, o.data ≠ .fields vs := by
      obtain ⟨o, e, d⟩ := hc'
      exact ⟨o, e, fun vs q => by rw [d] at q; cases q⟩
    have hcx : c ∈ eu env := List.mem_cons_of_mem _ (List.mem_map.mpr ⟨(x, c), mem_of_lookup hc, rfl⟩)
    obtain ⟨hh, gg, dd, tt, oo⟩ := s
    have st : SStp (eu env) envs.fs (Own σ ow) (Own σ ow) ⟨hh, gg, dd, tt, oo⟩ { heap := h', gens := gg, drawn := dd, toks := tt, os := oo } := SStp.touch _ hcx (F.cel x c hc).1 hk (let ⟨o, e, _⟩ := hlv; ⟨o, e⟩)
    have nsk : ∀ m, hh.Ns env.locals m → h'.Ns env.locals m := fun m hn => hn.at' fun o e => hk _ _ (Ne.symm (F.cel x c hc).2) e
    have lvL : ∃ o, h'.get? env.locals = some o := by
      obtain ⟨o, e⟩ := k.ok.live
      exact ⟨o, hk _ _ (Ne.symm (F.cel x c hc).2) e⟩
    refine K _ st ⟨⟨k.ok.good.touch (F.cel x c hc).1 hk hlv _, ⟨k.ok.loc.kind, k.ok.loc.glob, k.ok.loc.blt, k.ok.loc.offL, fun j w e => ?_⟩, k.ok.hnd.sstp st, lvL⟩, (let ⟨m, hn⟩ := k.ns; ⟨m, nsk m hn⟩), fun y c' hc'' => ?_⟩
    · rcases jM e with ⟨rfl, rfl⟩ | ⟨nj, e⟩
      · exact ⟨x, u, hx, st.vr r, .inr ⟨c, .inl hl, hc, hc', k.ok.good.off _ (envs.sub _ (F.cel x c hc).1)⟩⟩
      · obtain ⟨y, val, ey, ry, ly⟩ := k.ok.loc.val j w e
        refine ⟨y, val, ey, st.vr ry, ?_⟩
        rcases ly with ⟨kd, m', hns, hm⟩ | ⟨c', kd, hc'', ⟨o, eo, d⟩, hz⟩
        · exact .inl ⟨kd, m', nsk m' hns, hm⟩
        · exact .inr ⟨c', kd, hc'', ⟨o, hk _ _ (fun q => other j y ey nj (F.apart y x c (q ▸ hc'') hc)) eo, d⟩, hz⟩
    · by_cases q : c' = c
      · subst q; exact ⟨_, hc'⟩
      · obtain ⟨v', o, eo, d⟩ := k.cells y c' hc''
        exact ⟨v', o, hk _ _ q eo, d⟩
end
end Ap
end
section
namespace Ap
open PySem PySem.Calls PyProof.Rows
section
variable {C : Cx} {A : Around} {q : Bool} {env : Env} {envs : Vo} {nms : List Str} {ρ : Loc} {σ σ' : St} {ow ow' : Nat → Option Nat} {s s' : Shared} {outer : List Env}
mutual
theorem VR.xc {Z : Nat → Prop} {h h' : Heap} {fs : List Addr} {e : Addr} {t : Option (Addr × Value)} (x : Xc fs e t h h') (hz : ∀ b ∈ fs, Z b) {a : AV} {v : Value} (r : VR C Z h a v) : VR C Z h' a v := by
  cases r with
  | none => exact .none
  | bool b => exact .bool b
  | int i t => exact .int i t
  | str s t ok => exact .str s t ok
  | tup at_ off r =>
    obtain ⟨z, n, e⟩ := at_
    exact .tup ⟨z, n, x.keep _ _ e (fun m => off (hz _ m)) (.inr fun vs q => by cases q)⟩ off (VRs.xc x hz r)
  | ilist at_ off r =>
    obtain ⟨z, n, e⟩ := at_
    exact .ilist ⟨z, n, x.keep _ _ e (fun m => off (hz _ m)) (.inr fun vs q => by cases q)⟩ off (VRs.xc x hz r)
  | obj a => exact .obj a
  | exn at_ cls dt dn cx off =>
    obtain ⟨o', vs', y1, y2, y3, y4, _⟩ := x.fld _ _ _ at_ dt
    exact .exn y1 (y2.trans cls) y4 (y3.trans dn) cx off
theorem VRs.xc {Z : Nat → Prop} {h h' : Heap} {fs : List Addr} {e : Addr} {t : Option (Addr × Value)} (x : Xc fs e t h h') (hz : ∀ b ∈ fs, Z b) {a : List AV} {v : List Value} (r : VRs C Z h a v) : VRs C Z h' a v := by
  cases r with
  | nil => exact .nil
  | cons hd tl => exact .cons (VR.xc x hz hd) (VRs.xc x hz tl)
end
theorem ORep.xc {Z : Nat → Prop} {h h' : Heap} {fs : List Addr} {e : Addr} {t : Option (Addr × Value)} (x : Xc fs e t h h') (hz : ∀ b ∈ fs, Z b) {a : Addr} (ka : ∀ o, h.get? a = some o → h'.get? a = some o)
    (kd : ∀ dx, ow dx = some a → ∀ o, h.get? dx = some o → h'.get? dx = some o) {o : AObj} (r : ORep C Z ow h a o) : ORep C Z ow h' a o := by
  cases o with
  | list xs =>
    obtain ⟨vs, ⟨z, n, e⟩, r⟩ := r
    exact ⟨vs, ⟨z, n, ka _ e⟩, r.xc x hz⟩
  | dictI es =>
    obtain ⟨kvs, ⟨o, e1, ep, e, r⟩, z, y, w⟩ := r
    exact ⟨kvs, ⟨o, e1, ep, ka _ e, r⟩, z, y, w.xc x hz⟩
  | dictS es =>
    obtain ⟨kvs, ⟨o, e1, ep, e, r⟩, z, y, w⟩ := r
    exact ⟨kvs, ⟨o, e1, ep, ka _ e, r⟩, z, y, w.xc x hz⟩
  | inst c fs =>
    obtain ⟨o, dx, mA, e1, e2, e3, e4, e5, e6, e7, e8, r⟩ := r
    refine ⟨o, dx, mA, ka _ e1, e2, e3, e4, e5, e6, e7.at (fun o e => kd dx e6 o e), e8, fun f v y => ?_, r.2⟩
    obtain ⟨u, y1, y2⟩ := r.1 f v y
    exact ⟨u, y1, y2.xc x hz⟩
structure XOk (C : Cx) (envs : Vo) (σ : St) (ow : Nat → Option Nat) (fs : List Addr) (e : Addr) (t : Option (Addr × Value)) : Prop where
  sub : ∀ b ∈ fs, b ∈ envs.fs
  ne : ¬ Zs σ ow (zss envs) e ∧ C.base.get? e = Option.none
  nT : ∀ T fl, t = some (T, fl) → ¬ Zs σ ow (zss envs) T ∧ C.base.get? T = Option.none
theorem XOk.out {fs : List Addr} {e : Addr} {t : Option (Addr × Value)} (k : XOk C envs σ ow fs e t) {b : Addr} (hb : Zs σ ow (zss envs) b ∨ ∃ o, C.base.get? b = some o) : b ≠ e ∧ ∀ fl, t ≠ some (b, fl) := by
  refine ⟨fun q => ?_, fun fl q => ?_⟩
  · subst q
    rcases hb with hb | ⟨o, hb⟩
    · exact k.ne.1 hb
    · rw [k.ne.2] at hb; cases hb
  · rcases hb with hb | ⟨o, hb⟩
    · exact (k.nT b fl q).1 hb
    · rw [(k.nT b fl q).2] at hb; cases hb
theorem Good.xc {fs : List Addr} {e : Addr} {t : Option (Addr × Value)} {h' : Heap} (G : Good C envs σ ow s) (x : Xc fs e t s.heap h') (k : XOk C envs σ ow fs e t) : Good C envs σ ow { s with heap := h' } := by
  have hz : ∀ b ∈ fs, Zs σ ow (zss envs) b := fun b m => .inr (envs.sub _ (k.sub b m))
  have own : ∀ b, Own σ ow b → ∀ o, s.heap.get? b = some o → h'.get? b = some o := fun b ob o eb => x.keep b o eb (fun m => G.off b (envs.sub _ (k.sub b m)) ob) (.inl (k.out (.inl (.inl ob))))
  refine ⟨fun b o eb => ?_, G.frames.of_keeps fun b o eb nd => ?_, G.apart, fun b m => ?_, G.sub, fun b o' eb => ?_, fun b c eb => ?_, G.fresh, G.off, G.gens⟩
  · exact x.keep b o (G.stays b o eb) (fun m => by rw [(G.mem b (envs.sub _ (k.sub b m))).1] at eb; cases eb) (.inl (k.out (.inr ⟨o, eb⟩)))
  · obtain ⟨sl, z⟩ := x.frm b o eb nd
    exact ⟨_, z, rfl⟩
  · obtain ⟨y, o, eb⟩ := G.mem b m
    exact ⟨y, x.live eb⟩
  · exact (G.store b o' eb).xc x hz (own b (.inl (by rw [eb]; rfl))) fun dx hd => own dx (.inr (by rw [hd]; rfl))
  · obtain ⟨x1, x2, x3⟩ := G.parts b c eb
    obtain ⟨od, ed⟩ := Option.isSome_iff_exists.mp x3
    refine ⟨x1, x2, ?_⟩
    show (h'.get? b).isSome = true
    rw [own b (.inr (by rw [eb]; rfl)) od ed]; rfl
theorem SOk.xc (F : FEnv env nms envs outer) {fs : List Addr} {e : Addr} {t : Option (Addr × Value)} {h' : Heap} (K : SOk C A q env envs nms ρ σ ow s) (x : Xc fs e t s.heap h') (k : XOk C envs σ ow fs e t) : SOk C A q env envs nms ρ σ ow { s with heap := h' } := by
  have hz : ∀ b ∈ fs, Zs σ ow (zss envs) b := fun b m => .inr (envs.sub _ (k.sub b m))
  have nsk : ∀ m, s.heap.Ns env.locals m → h'.Ns env.locals m := fun m hn => by
    obtain ⟨o, es, ep, ho, hd, r⟩ := hn
    obtain ⟨sl, z⟩ := x.frm _ o ho fun vs q => by rw [hd] at q; cases q
    exact ⟨_, es, ep, z, hd, r⟩
  have ck : ∀ c v, s.heap.IsCell c v → h'.IsCell c v := fun c v hc => by
    obtain ⟨o, ho, hd⟩ := hc
    obtain ⟨sl, z⟩ := x.frm _ o ho fun vs q => by rw [hd] at q; cases q
    exact ⟨_, z, hd⟩
  refine ⟨⟨K.ok.good.xc x k, ⟨K.ok.loc.kind, K.ok.loc.glob, K.ok.loc.blt, K.ok.loc.offL, fun j w ej => ?_⟩, ?_, ?_⟩, ?_, fun y c hc => ?_⟩
  · obtain ⟨y, val, ey, ry, ly⟩ := K.ok.loc.val j w ej
    refine ⟨y, val, ey, VR.xc x hz ry, ?_⟩
    rcases ly with ⟨kd, m', hns, hm⟩ | ⟨c, kd, hc, hv, hz'⟩
    · exact .inl ⟨kd, m', nsk m' hns, hm⟩
    · exact .inr ⟨c, kd, hc, ck _ _ hv, hz'⟩
  · rcases K.ok.hnd with h | ⟨hq, e', o, vs, h1, h2, h3, h4, h5⟩
    · exact .inl h
    · obtain ⟨o', vs', y1, y2, y3, y4, y5⟩ := x.fld _ _ _ h2 h3
      exact .inr ⟨hq, e', o', vs', h1, y1, y4, y5.trans h4, h5⟩
  · obtain ⟨o, eo⟩ := K.ok.live
    exact x.live eo
  · obtain ⟨m, hn⟩ := K.ns
    exact ⟨m, nsk m hn⟩
  · obtain ⟨v, hv⟩ := K.cells y c hc
    exact ⟨v, ck c v hv⟩
theorem SStp.xc {X fs : List Addr} {e : Addr} {t : Option (Addr × Value)} {h' : Heap} (st : SStp X envs.fs (Own σ ow) (Own σ' ow') s s') (G : Good C envs σ' ow' s') (x : Xc fs e t s'.heap h') (k : XOk C envs σ' ow' fs e t)
    (n0 : s.heap.get? e = Option.none) (nT : ∀ T fl, t = some (T, fl) → s.heap.get? T = Option.none) (hf : ∀ b ∈ fs, ∀ o, s'.heap.get? b = some o → ∀ vs, o.data ≠ .fields vs) : SStp X envs.fs (Own σ ow) (Own σ' ow') s { s' with heap := h' } := by
  have out : ∀ b o, s.heap.get? b = some o → b ≠ e ∧ ∀ fl, t ≠ some (b, fl) := fun b o eb => ⟨fun q => (by subst q; rw [n0] at eb; cases eb), fun fl q => (by rw [nT b fl q] at eb; cases eb)⟩
  refine ⟨fun b o eb nO nf => ?_, fun b o eb m nX => ?_, fun b o eb m => ?_, st.grow, st.fresh, st.gens, st.drawn, st.os⟩
  · exact x.keep b o (st.keep b o eb nO nf) (fun m => nf (k.sub b m)) (.inl (out b o eb))
  · obtain ⟨sl, z⟩ := st.frm b o eb m nX
    by_cases q : ∃ vs, o.data = .fields vs
    · by_cases mf : b ∈ fs
      · obtain ⟨vs, d⟩ := q
        exact absurd d (hf b mf _ z vs)
      · exact ⟨sl, x.keep b _ z mf (.inl (out b o eb))⟩
    · obtain ⟨sl', z'⟩ := x.frm b _ z fun vs d => q ⟨vs, d⟩
      exact ⟨sl', z'⟩
  · obtain ⟨o', z⟩ := st.liv b o eb m
    exact x.live z
theorem Good.frm (G : Good C envs σ ow s) {l : List Env} (e : envs.l = l) : ∀ b ∈ l.filterMap (·.frame), ∀ o, s.heap.get? b = some o → ∀ vs, o.data ≠ .fields vs := fun b m o eb vs => by
  subst e
  obtain ⟨_, o', e', d⟩ := G.frames.mem m
  rw [eb] at e'
  cases e'
  exact d vs
theorem Good.subF (G : Good C envs σ ow s) {l : List Env} (e : envs.l = l) : ∀ b ∈ l.filterMap (·.frame), b ∈ envs.fs := fun b m => by
  subst e
  obtain ⟨env, he, hf⟩ := List.mem_filterMap.mp m
  exact G.sub env he b hf
theorem lE (F : FEnv env nms envs outer) (hA : A.frames = some envs.l) {s₀ : Shared} {σ₀ : St} {ow₀ : Nat → Option Nat} {e : Addr} {c : Nat} {Q : Unit → Shared → Prop} {E : Value → Shared → Prop}
    (hb : C.base.StaysIn s₀.heap) (st : SStp (eu env) envs.fs (Own σ₀ ow₀) (Own σ ow) s₀ s) (K : SOk C A q env envs nms ρ σ ow s) (t : BL C env.locals (Zs σ ow (zss envs)) s₀.heap e c s.heap)
    (k : ∀ s' T, SStp (eu env) envs.fs (Own σ₀ ow₀) (Own σ ow) s₀ s' → SOk C A q env envs nms ρ σ ow s' → ExO s'.heap e (.ref (C.clsA c)) (some (T, rawInt env.locals)) → s₀.heap.get? T = Option.none → ¬ Zs σ ow (zss envs) T → Q () s') :
    wpAny (model C.prog C.w) A (noteFrame (.ref e) env) Q E s := by
  obtain ⟨⟨n1, n2, n3⟩, tt, x1, x2⟩ := t
  have bn : ∀ b, s₀.heap.get? b = Option.none → C.base.get? b = Option.none := fun b z => by
    cases y : C.base.get? b with
    | none => rfl
    | some o => rw [hb b o y] at z; cases z
  have xk : XOk C envs σ ow ((env :: outer).filterMap (·.frame)) e tt := ⟨K.ok.good.subF F.l, ⟨n2, bn _ n1⟩, fun T fl z => ⟨(x2 T fl z).2.2, bn _ (x2 T fl z).2.1⟩⟩
  refine xP (hA.trans (by rw [F.l])) (by have := K.ok.good.frames; rw [F.l] at this; exact this) F.frame x1 fun h' T' y1 y2 y3 => ?_
  have st' := st.xc K.ok.good y1 xk n1 (fun T fl z => (x2 T fl z).2.1) (K.ok.good.frm F.l)
  refine k _ T' st' (K.xc F y1 xk) y2 ?_ ?_
  · rcases y3 with y3 | ⟨fl, y3⟩
    · exact st.back K.ok.good T' y3
    · exact (x2 T' fl y3).2.1
  · rcases y3 with y3 | ⟨fl, y3⟩
    · rintro (z | z)
      · obtain ⟨o, w⟩ := K.ok.good.live z
        rw [y3] at w; cases w
      · obtain ⟨_, o, w⟩ := K.ok.good.mem _ z
        rw [y3] at w; cases w
    · exact (x2 T' fl y3).2.2
theorem dF (F : FEnv env nms envs outer) {s₀ : Shared} {σ₀ : St} {ow₀ : Nat → Option Nat} {e T : Addr} {c : Nat} {fl : Value} {f : Option Addr} {Q : Unit → Shared → Prop} {E : Value → Shared → Prop}
    (hb : C.base.StaysIn s₀.heap) (st : SStp (eu env) envs.fs (Own σ₀ ow₀) (Own σ ow) s₀ s) (K : SOk C A q env envs nms ρ σ ow s) (n : s₀.heap.get? e = Option.none ∧ ¬ Zs σ ow (zss envs) e) (x : ExO s.heap e (.ref (C.clsA c)) (some (T, fl)))
    (nT : s₀.heap.get? T = Option.none) (nZ : ¬ Zs σ ow (zss envs) T)
    (k : ∀ s', SStp (eu env) envs.fs (Own σ₀ ow₀) (Own σ ow) s₀ s' → SOk C A q env envs nms ρ σ ow s' → ExO s'.heap e (.ref (C.clsA c)) (some (T, f.elim .none fun f => rawInt f)) → Q () s') :
    wpAny (model C.prog C.w) A (setFlight (.ref e) f) Q E s := by
  have bn : ∀ b, s₀.heap.get? b = Option.none → C.base.get? b = Option.none := fun b z => by
    cases y : C.base.get? b with
    | none => rfl
    | some o => rw [hb b o y] at z; cases z
  have xk : XOk C envs σ ow [] e (some (T, fl)) := ⟨fun b m => absurd m (by simp), ⟨n.2, bn _ n.1⟩, fun T' fl' z => by cases z; exact ⟨nZ, bn _ nT⟩⟩
  refine tH x fun h' y1 y2 => ?_
  exact k _ (st.xc K.ok.good y1 xk n.1 (fun T' fl' z => by cases z; exact nT) fun b m => absurd m (by simp)) (K.xc F y1 xk) y2
theorem qa (F : FEnv env nms envs outer) (hA : A.frames = some envs.l) {s₀ : Shared} {σ₀ : St} {ow₀ : Nat → Option Nat} {e : Addr} {c : Nat} {Ea : ES} {E : Value → Shared → Prop}
    (hb : C.base.StaysIn s₀.heap) (st : SStp (eu env) envs.fs (Own σ₀ ow₀) (Own σ ow) s₀ s) (K : SOk C A q env envs nms ρ σ ow s) (t : BL C env.locals (Zs σ ow (zss envs)) s₀.heap e c s.heap) (a : Ea c ρ σ)
    (kx : KXS C A q env envs nms σ₀ ow₀ s₀ Ea E) : notedBy (model C.prog C.w) A env (cameBackBy (model C.prog C.w) A env E) (.ref e) s := by
  have t0 := t.1
  refine lE F hA hb st K t fun s' T st' K' x nT nZ => ?_
  unfold cameBackBy
  obtain ⟨oe, vs, a0, x1, x2, x3, x4, x5, x6, x7, x8⟩ := id x
  refine wpAny_bind (wpAny_field x1 x4 x7 ?_)
  rw [if_neg (by simp)]
  refine dF F hb st' K' ⟨t0.1, t0.2.1⟩ x nT nZ fun s'' st'' K'' x' => ?_
  rw [F.frame] at x'
  exact kx e c ρ σ ow s'' a st'' K'' ⟨t0, _, x', fun T' fl' z => by cases z; exact ⟨.inr rfl, nT, nZ⟩⟩
end
end Ap
end
section
namespace Ap
open PySem PySem.Calls PyProof.Rows
section
variable {prog : Program} {w : World} {A : Around} {E : Value → Shared → Prop} {s : Shared}
theorem pN : entryFor table "proto.unchain" = some Builtin.«proto.unchain» := entryFor_of_fast (by kernel_rfl)
noncomputable def CL (A : Around) (h : Heap) : Prop := A.handled = Option.none ∨ ∃ e o vs, A.handled = some (.ref e) ∧ h.get? e = some o ∧ o.data = .fields vs ∧ vs[2]? = some .none
theorem qP {α : Type} {a : Addr} {o : Obj} {vs : Array Value} {Q : α → Shared → Prop} (hh : CL A s.heap) (ho : s.heap.get? a = some o) (hd : o.data = .fields vs) (h2 : 2 < vs.size)
    (h : ∀ h' vs', h'.get? a = some { o with data := .fields vs' } → (∀ b, b ≠ a → h'.get? b = s.heap.get? b) → E (.ref a) { s with heap := h' }) : wpAny (model prog w) A (raiseNew (.ref a) : Sem α) Q E s := by
  unfold raiseNew
  refine wpAny_bind (wpAny_handled ?_)
  rcases hh with hh | ⟨e, oe, es, hh, he, hde, h0⟩
  · rw [hh]
    exact wpAny_bind (wpAny_pure (wpAny_throw (h s.heap vs (by rw [ho, ← hd]) fun _ _ => rfl)))
  · rw [hh]
    by_cases q : (Value.ref e != Value.ref a) = true
    · show wpAny _ _ (if (Value.ref e != Value.ref a) = true then _ else _) _ _ _
      rw [if_pos q]
      refine wpAny_bind ((wpAny_holding (wpAny_runValue (codeAny_builtin pN ?_))))
      unfold Builtin.«proto.unchain»
      refine wpAny_bind (wpAny_field he hde h0 ?_)
      rw [if_pos (show (Value.none == Value.none) = true from by decide)]
      refine wpAny_bind (wpAny_pure ?_)
      refine wpAny_pure ?_
      show wpAny _ _ (setField (.ref a) 2 (.ref e) >>= _) _ _ _
      refine wpAny_bind (wpAny_setField (x := .ref e) ho hd h2 ?_)
      obtain ⟨u1, u2⟩ := ix 2 (.ref e) ho hd
      exact wpAny_throw (h _ _ u1 u2)
    · show wpAny _ _ (if (Value.ref e != Value.ref a) = true then _ else _) _ _ _
      rw [if_neg q]
      exact wpAny_throw (h s.heap vs (by rw [ho, ← hd]) fun _ _ => rfl)
theorem jr {it l : Addr} {i : Nat} {items : Array Value} {Q : Option Value → Shared → Prop} (hh : CL A s.heap)
    (hit : s.heap.IsListIter it l i) (hl : s.heap.IsList l items) (hx : items[i]? = none) (hA : ∀ e, A.handled = some (.ref e) → e ≠ it)
    (hQ : ∀ h', Heap.ExtBut it s.heap h' → (∃ o, h'.get? it = some o) → Q none { s with heap := h' }) : wpAny (model prog w) A (pyNext (.ref it)) Q E s := by
  obtain ⟨o, ho, hc, hd⟩ := id hit
  obtain ⟨ol, hol, _, nl, hdl⟩ := hl
  unfold pyNext
  refine wpAny_bind (wpAny_attempt (wpAny_callSpecial?_slot (name := Str.ofString "__next__") hit.typeIs slot_listiter_next
    (wpAny_call_entry slot_listiter_next hit.typeIs entry_listiter_next ?_ (args_listiter_next _))))
  show wpAny _ _ (field (.ref it) 0 >>= _) _ _ s
  refine wpAny_bind (wpAny_field ho hd (x := .ref l) rfl ?_)
  show wpAny _ _ (if (Value.ref l == Value.none) = true then _ else _) _ _ s
  rw [if_neg (show ¬ ((Value.ref l == Value.none) = true) from Bool.false_ne_true)]
  show wpAny _ _ (field (.ref it) 1 >>= _) _ _ s
  refine wpAny_bind (wpAny_field ho hd (x := .int i 0) rfl ?_)
  show wpAny _ _ (seqItems? (.ref l) >>= _) _ _ s
  refine wpAny_bind (wpAny_seqItems hol hdl ?_)
  simp only [Int.toNat_natCast, hx]
  refine wpAny_bind (wpAny_rule (wpAny_bind (wpAny_setField ho hd (by simp) ?_)))
  show wpAny _ _ (newExc (.type "StopIteration") [] >>= _) _ _ _
  refine wpAny_bind ?_
  simp only [newExc, newTuple]
  refine wpAny_bind (wpAny_newObj_type ?_ (by size_fits))
  refine wpAny_bind (m := firstArgMember _ _) (wpAny_of_eq (a := Value.none) (by first | rfl | (simp only [firstArgMember]; rfl)) ?_)
  refine wpAny_newObj_type ?_ (by size_fits)
  refine qP ?_ (Heap.get?_push_size _ rfl) rfl (by simp only [List.size_toArray, List.length_append, List.length_cons, Array.size_append]; omega) fun h' vs' y1 y2 => ?_
  · rcases hh with hh | ⟨e, oe, es, hh, he, hde, h0⟩
    · exact .inl hh
    · refine .inr ⟨e, oe, es, hh, ?_, hde, h0⟩
      exact Heap.get?_push_of_some _ (Heap.get?_push_of_some _ ((Heap.get?_update_other _ _ (Ne.symm (hA e hh))).trans he))
  · refine wpAny_bind (wpAny_isInstance (T := "StopIteration") (b := true) ⟨_, y1, rfl⟩ isSubtype_stop ?_)
    have hself := Heap.get?_update_self (Obj.mapFields (·.setIfInBounds 0 Value.none)) ho (Obj.isFreed_of_fields (Obj.data_mapFields hd _))
    have k0 := Heap.get?_push_of_some { cls := .type "tuple", data := .seq #[] } hself
    refine wpAny_pure (hQ _ (fun b ob nb eb => ?_) ⟨_, (y2 it (Nat.ne_of_lt (Heap.lt_size k0))).trans (Heap.get?_push_of_some _ k0)⟩)
    have k1 := Heap.get?_push_of_some { cls := .type "tuple", data := .seq #[] } ((Heap.get?_update_other s.heap (Obj.mapFields (·.setIfInBounds 0 Value.none)) (Ne.symm nb)).trans eb)
    rw [y2 b (fun q => absurd (Heap.lt_size k1) (by rw [q]; exact Nat.lt_irrefl _))]
    exact Heap.get?_push_of_some _ k1
end
end Ap
end
section
set_option genSizeOf false
namespace Ap
open PySem PySem.Calls PyProof.Rows
noncomputable def Vo.plus (V : Vo) (wr : List Addr) : Vo := ⟨V.l, V.fs, wr ++ V.its⟩
section
variable {C : Cx} {A : Around} {q : Bool} {env : Env} {V : Vo} {nms : List Str} {ρ : Loc} {σ σ' : St} {ow ow' : Nat → Option Nat} {s s' : Shared} {outer : List Env} {wr : List Addr}
theorem Vo.plus_sub : ∀ b ∈ zss V, b ∈ zss (V.plus wr) := fun b h => by
  rcases List.mem_append.mp h with h | h
  · exact List.mem_append_left _ h
  · exact List.mem_append_right _ (List.mem_append_right _ h)
theorem Vo.plus_mem {b : Addr} (h : b ∈ zss (V.plus wr)) : b ∈ zss V ∨ b ∈ wr := by
  rcases List.mem_append.mp h with h | h
  · exact .inl (List.mem_append_left _ h)
  · rcases List.mem_append.mp h with h | h
    · exact .inr h
    · exact .inl (List.mem_append_right _ h)
theorem Vo.plus_wr {b : Addr} (h : b ∈ wr) : b ∈ zss (V.plus wr) := List.mem_append_right _ (List.mem_append_left _ h)
theorem dS {b : Addr} (h : Zs σ ow (zss V) b) : Zs σ ow (zss (V.plus wr)) b := h.imp id (Vo.plus_sub b)
theorem Good.open_ {h' : Heap} {t : Nat} (G : Good C V σ ow s) (gr : ∀ b o, s.heap.get? b = some o → h'.get? b = some o) (fr : ∀ b ∈ wr, s.heap.get? b = Option.none ∧ ∃ o, h'.get? b = some o) : Good C (V.plus wr) σ ow { s with heap := h', toks := t } := by
  have zg : Zg (Zs σ ow (zss V)) (Zs σ ow (zss (V.plus wr))) s.heap := fun b z => by
    rcases z with z | z
    · exact .inl (.inl z)
    · rcases Vo.plus_mem z with z | z
      · exact .inl (.inr z)
      · exact .inr (fr b z).1
  refine ⟨fun b o e => gr b o (G.stays b o e), G.frames.of_keeps fun b o e _ => ⟨o, gr b o e, rfl⟩, fun b m n => ?_, fun b m => ?_, G.sub, fun b o' e => ?_, fun b c e => ?_, G.fresh, fun L hL z => ?_, G.gens⟩
  · rcases List.mem_append.mp m with m | m
    · obtain ⟨_, o, z⟩ := G.mem b (V.sub b n)
      rw [(fr b m).1] at z; cases z
    · exact G.apart b m n
  · rcases Vo.plus_mem m with m | m
    · obtain ⟨x, o, z⟩ := G.mem b m
      exact ⟨x, o, gr b o z⟩
    · refine ⟨?_, (fr b m).2⟩
      cases z : C.base.get? b with
      | none => rfl
      | some o => have := G.stays b o z; rw [(fr b m).1] at this; cases this
  · have x := G.store b o' e
    obtain ⟨oa, ea⟩ := Option.isSome_iff_exists.mp x.live
    exact x.kp (fun b o e _ => gr b o e) zg (by rw [ea]; exact gr b oa ea) fun dx hd => by
      obtain ⟨od, ed⟩ := Option.isSome_iff_exists.mp (G.parts dx b hd).2.2
      exact ⟨by rw [ed]; exact gr dx od ed, hd⟩
  · obtain ⟨x1, x2, x3⟩ := G.parts b c e
    obtain ⟨od, ed⟩ := Option.isSome_iff_exists.mp x3
    exact ⟨x1, x2, by show (h'.get? b).isSome = true; rw [gr b od ed]; rfl⟩
  · rcases Vo.plus_mem hL with m | m
    · exact G.off L m z
    · obtain ⟨o, y⟩ := G.live z
      rw [(fr L m).1] at y; cases y
theorem Good.close_ (G : Good C (V.plus wr) σ ow s) : Good C V σ ow s := by
  have zg : ∀ h : Heap, Zg (Zs σ ow (zss (V.plus wr))) (Zs σ ow (zss V)) h := fun h b z => .inl (dS z)
  refine ⟨G.stays, G.frames, fun b m => G.apart b (List.mem_append_right _ m), fun b m => G.mem b (Vo.plus_sub b m), G.sub, fun b o' e => ?_, G.parts, G.fresh, fun L hL => G.off L (Vo.plus_sub L hL), G.gens⟩
  exact (G.store b o' e).kp (fun _ _ e _ => e) (zg _) rfl fun dx hd => ⟨rfl, hd⟩
theorem Good.its {h' : Heap} {t : Nat} (G : Good C (V.plus wr) σ ow s) (k : ∀ b o, b ∉ wr → s.heap.get? b = some o → h'.get? b = some o) (lv : ∀ b ∈ wr, ∃ o, h'.get? b = some o) : Good C (V.plus wr) σ ow { s with heap := h', toks := t } := by
  have no : ∀ b, Own σ ow b → b ∉ wr := fun b z m => G.off b (Vo.plus_wr m) z
  have hK : Kp (Zs σ ow (zss (V.plus wr))) s.heap h' := fun b o e n => k b o (fun m => n (.inr (Vo.plus_wr m))) e
  have nf : ∀ b ∈ V.fs, b ∉ wr := fun b m n => G.apart b (List.mem_append_left _ n) m
  refine ⟨fun b o e => k b o (fun m => ?_) (G.stays b o e), ?_, G.apart, fun b m => ?_, G.sub, fun b o' e => ?_, fun b c e => ?_, G.fresh, G.off, G.gens⟩
  · rw [(G.mem b (Vo.plus_wr m)).1] at e; cases e
  · have : ∀ l : List Env, (∀ L ∈ l.filterMap (·.frame), L ∉ wr) → s.heap.FunFrames C.base l → h'.FunFrames C.base l := by
      intro l
      induction l with
      | nil => intro _ _; trivial
      | cons env r ih =>
        rintro hn ⟨hk, ⟨L, ob, hf, hb, ho, hdt⟩, hr⟩
        refine ⟨hk, ⟨L, ob, hf, hb, k L ob (hn L (by simp [List.filterMap_cons, hf])) ho, hdt⟩, ih (fun L hL => hn L ?_) hr⟩
        rw [List.filterMap_cons, hf]; exact List.mem_cons_of_mem _ hL
    exact this _ (fun L hL => by
      obtain ⟨env, he, hf⟩ := List.mem_filterMap.mp hL
      exact nf L (G.sub env he L hf)) G.frames
  · obtain ⟨x, o, e⟩ := G.mem b m
    by_cases z : b ∈ wr
    · exact ⟨x, lv b z⟩
    · exact ⟨x, o, k b o z e⟩
  · have x := G.store b o' e
    obtain ⟨oa, ea⟩ := Option.isSome_iff_exists.mp x.live
    exact x.kp hK (Zg.refl _ _) (by rw [ea]; exact k b oa (no b (.inl (by rw [e]; rfl))) ea) fun dx hd => by
      obtain ⟨od, ed⟩ := Option.isSome_iff_exists.mp (G.parts dx b hd).2.2
      exact ⟨by rw [ed]; exact k dx od (no dx (.inr (by rw [hd]; rfl))) ed, hd⟩
  · obtain ⟨x1, x2, x3⟩ := G.parts b c e
    obtain ⟨od, ed⟩ := Option.isSome_iff_exists.mp x3
    exact ⟨x1, x2, by show (h'.get? b).isSome = true; rw [k b od (no b (.inr (by rw [e]; rfl))) ed]; rfl⟩
theorem FEnv.plus (F : FEnv env nms V outer) : FEnv env nms (V.plus wr) outer := ⟨F.l, F.kind, F.frame, F.inF, F.cel, F.apart, F.nodup, F.kinds⟩
theorem AOk.plus {d : Nat} (x : AOk A V d) : AOk A (V.plus wr) d := ⟨x.frames, x.depth, x.units⟩
theorem Ok.open_ {h' : Heap} {t : Nat} (k : Ok C A q env V nms ρ σ ow s) (gr : ∀ b o, s.heap.get? b = some o → h'.get? b = some o) (fr : ∀ b ∈ wr, s.heap.get? b = Option.none ∧ ∃ o, h'.get? b = some o) : Ok C A q env (V.plus wr) nms ρ σ ow { s with heap := h', toks := t } := by
  have zg : Zg (Zs σ ow (zss V)) (Zs σ ow (zss (V.plus wr))) s.heap := fun b z => by
    rcases z with z | z
    · exact .inl (.inl z)
    · rcases Vo.plus_mem z with z | z
      · exact .inl (.inr z)
      · exact .inr (fr b z).1
  refine ⟨k.good.open_ gr fr, ⟨k.loc.kind, k.loc.glob, k.loc.blt, k.loc.offL, fun j w e => ?_⟩, ?_, let ⟨o, e⟩ := k.live; ⟨o, gr _ _ e⟩⟩
  · obtain ⟨y, val, ey, ry, ly⟩ := k.loc.val j w e
    refine ⟨y, val, ey, ry.kp (fun b o e _ => gr b o e) zg, ?_⟩
    rcases ly with ⟨kd, m', hns, hm⟩ | ⟨c, kd, hc, ⟨o, eo, d⟩, hz⟩
    · exact .inl ⟨kd, m', hns.at' fun o e => gr _ _ e, hm⟩
    · exact .inr ⟨c, kd, hc, ⟨o, gr _ _ eo, d⟩, hz⟩
  · rcases k.hnd with h | ⟨hq, e, o, vs, h1, h2, h3, h4, h5⟩
    · exact .inl h
    · exact .inr ⟨hq, e, o, vs, h1, gr _ _ h2, h3, h4, zg.not h2 h5⟩
theorem SOk.open_ {h' : Heap} {t : Nat} (k : SOk C A q env V nms ρ σ ow s) (gr : ∀ b o, s.heap.get? b = some o → h'.get? b = some o) (fr : ∀ b ∈ wr, s.heap.get? b = Option.none ∧ ∃ o, h'.get? b = some o) : SOk C A q env (V.plus wr) nms ρ σ ow { s with heap := h', toks := t } :=
  ⟨k.ok.open_ gr fr, let ⟨m, h⟩ := k.ns; ⟨m, h.at' fun o e => gr _ _ e⟩, fun y c hc => let ⟨v, o, e, d⟩ := k.cells y c hc; ⟨v, o, gr _ _ e, d⟩⟩
theorem Ok.close_ (k : Ok C A q env (V.plus wr) nms ρ σ ow s) : Ok C A q env V nms ρ σ ow s := by
  refine ⟨k.good.close_, ⟨k.loc.kind, k.loc.glob, k.loc.blt, k.loc.offL, fun j w e => ?_⟩, ?_, k.live⟩
  · obtain ⟨y, val, ey, ry, ly⟩ := k.loc.val j w e
    exact ⟨y, val, ey, ry.kp (fun _ _ e _ => e) fun b z => .inl (dS z), ly⟩
  · rcases k.hnd with h | ⟨hq, e, o, vs, h1, h2, h3, h4, h5⟩
    · exact .inl h
    · exact .inr ⟨hq, e, o, vs, h1, h2, h3, h4, fun z => h5 (dS z)⟩
theorem SOk.close_ (k : SOk C A q env (V.plus wr) nms ρ σ ow s) : SOk C A q env V nms ρ σ ow s := ⟨k.ok.close_, k.ns, k.cells⟩
theorem SOk.its (F : FEnv env nms V outer) {h' : Heap} {t : Nat} (K : SOk C A q env (V.plus wr) nms ρ σ ow s) (k : ∀ b o, b ∉ wr → s.heap.get? b = some o → h'.get? b = some o) (lv : ∀ b ∈ wr, ∃ o, h'.get? b = some o) : SOk C A q env (V.plus wr) nms ρ σ ow { s with heap := h', toks := t } := by
  have hK : Kp (Zs σ ow (zss (V.plus wr))) s.heap h' := fun b o e n => k b o (fun m => n (.inr (Vo.plus_wr m))) e
  have nf : ∀ b ∈ V.fs, b ∉ wr := fun b m n => K.ok.good.apart b (List.mem_append_left _ n) m
  have nL := nf _ F.inF
  refine ⟨⟨K.ok.good.its k lv, ⟨K.ok.loc.kind, K.ok.loc.glob, K.ok.loc.blt, K.ok.loc.offL, fun j w e => ?_⟩, ?_, let ⟨o, e⟩ := K.ok.live; ⟨o, k _ _ nL e⟩⟩, let ⟨m, h⟩ := K.ns; ⟨m, h.at' fun o e => k _ _ nL e⟩, fun y c hc => let ⟨v, o, e, d⟩ := K.cells y c hc; ⟨v, o, k _ _ (nf _ (F.cel y c hc).1) e, d⟩⟩
  · obtain ⟨y, val, ey, ry, ly⟩ := K.ok.loc.val j w e
    refine ⟨y, val, ey, ry.kp hK (Zg.refl _ _), ?_⟩
    rcases ly with ⟨kd, m', hns, hm⟩ | ⟨c, kd, hc, ⟨o, eo, d⟩, hz⟩
    · exact .inl ⟨kd, m', hns.at' fun o e => k _ _ nL e, hm⟩
    · exact .inr ⟨c, kd, hc, ⟨o, k _ _ (nf _ (F.cel y c hc).1) eo, d⟩, hz⟩
  · rcases K.ok.hnd with h | ⟨hq, e, o, vs, h1, h2, h3, h4, h5⟩
    · exact .inl h
    · exact .inr ⟨hq, e, o, vs, h1, hK _ _ h2 h5, h3, h4, h5⟩
theorem SStp.its {X : List Addr} {O O' : Nat → Prop} {s₀ : Shared} {h' : Heap} {t : Nat} (x : SStp X V.fs O O' s₀ s) (G : ∀ b ∈ V.fs, b ∉ wr) (k : ∀ b o, b ∉ wr → s.heap.get? b = some o → h'.get? b = some o) (fr : ∀ b ∈ wr, s₀.heap.get? b = Option.none) :
    SStp X V.fs O O' s₀ { s with heap := h', toks := t } where
  keep := fun b o e n m => k b o (fun w => by rw [fr b w] at e; cases e) (x.keep b o e n m)
  frm := fun b o e m n => let ⟨sl, z⟩ := x.frm b o e m n; ⟨sl, k b _ (G b m) z⟩
  liv := fun b o e m => let ⟨o', z⟩ := x.liv b o e m; ⟨o', k b _ (G b m) z⟩
  grow := x.grow
  fresh := x.fresh
  gens := x.gens
  drawn := x.drawn
  os := x.os
theorem Good.drop {h' : Heap} {t : Nat} (G : Good C (V.plus wr) σ ow s) (nz : ∀ b ∈ wr, b ∉ V.its) (k : ∀ b o, b ∉ wr → s.heap.get? b = some o → h'.get? b = some o) : Good C V σ ow { s with heap := h', toks := t } := by
  have no : ∀ b, Own σ ow b → b ∉ wr := fun b z m => G.off b (Vo.plus_wr m) z
  have nf : ∀ b ∈ V.fs, b ∉ wr := fun b m n => G.apart b (List.mem_append_left _ n) m
  have hK : Kp (Zs σ ow (zss (V.plus wr))) s.heap h' := fun b o e n => k b o (fun m => n (.inr (Vo.plus_wr m))) e
  have zg : Zg (Zs σ ow (zss (V.plus wr))) (Zs σ ow (zss V)) s.heap := fun b z => .inl (dS z)
  have nv : ∀ b ∈ zss V, b ∉ wr := fun b m => by
    rcases List.mem_append.mp m with m | m
    · exact nf b m
    · exact fun w => nz b w m
  refine ⟨fun b o e => k b o (fun m => ?_) (G.stays b o e), ?_, fun b m => G.apart b (List.mem_append_right _ m), fun b m => ?_, G.sub, fun b o' e => ?_, fun b c e => ?_, G.fresh, fun L hL => G.off L (Vo.plus_sub L hL), G.gens⟩
  · rw [(G.mem b (Vo.plus_wr m)).1] at e; cases e
  · have : ∀ l : List Env, (∀ L ∈ l.filterMap (·.frame), L ∉ wr) → s.heap.FunFrames C.base l → h'.FunFrames C.base l := by
      intro l
      induction l with
      | nil => intro _ _; trivial
      | cons env r ih =>
        rintro hn ⟨hk, ⟨L, ob, hf, hb, ho, hdt⟩, hr⟩
        refine ⟨hk, ⟨L, ob, hf, hb, k L ob (hn L (by simp [List.filterMap_cons, hf])) ho, hdt⟩, ih (fun L hL => hn L ?_) hr⟩
        rw [List.filterMap_cons, hf]; exact List.mem_cons_of_mem _ hL
    exact this _ (fun L hL => by
      obtain ⟨env, he, hf⟩ := List.mem_filterMap.mp hL
      exact nf L (G.sub env he L hf)) G.frames
  · obtain ⟨x, o, e⟩ := G.mem b (Vo.plus_sub b m)
    exact ⟨x, o, k b o (nv b m) e⟩
  · have x := G.store b o' e
    obtain ⟨oa, ea⟩ := Option.isSome_iff_exists.mp x.live
    exact x.kp hK zg (by rw [ea]; exact k b oa (no b (.inl (by rw [e]; rfl))) ea) fun dx hd => by
      obtain ⟨od, ed⟩ := Option.isSome_iff_exists.mp (G.parts dx b hd).2.2
      exact ⟨by rw [ed]; exact k dx od (no dx (.inr (by rw [hd]; rfl))) ed, hd⟩
  · obtain ⟨x1, x2, x3⟩ := G.parts b c e
    obtain ⟨od, ed⟩ := Option.isSome_iff_exists.mp x3
    exact ⟨x1, x2, by show (h'.get? b).isSome = true; rw [k b od (no b (.inr (by rw [e]; rfl))) ed]; rfl⟩
theorem SOk.drop (F : FEnv env nms V outer) {h' : Heap} {t : Nat} (K : SOk C A q env (V.plus wr) nms ρ σ ow s) (nz : ∀ b ∈ wr, b ∉ V.its) (k : ∀ b o, b ∉ wr → s.heap.get? b = some o → h'.get? b = some o) : SOk C A q env V nms ρ σ ow { s with heap := h', toks := t } := by
  have hK : Kp (Zs σ ow (zss (V.plus wr))) s.heap h' := fun b o e n => k b o (fun m => n (.inr (Vo.plus_wr m))) e
  have zg : Zg (Zs σ ow (zss (V.plus wr))) (Zs σ ow (zss V)) s.heap := fun b z => .inl (dS z)
  have nf : ∀ b ∈ V.fs, b ∉ wr := fun b m n => K.ok.good.apart b (List.mem_append_left _ n) m
  have nL := nf _ F.inF
  refine ⟨⟨K.ok.good.drop nz k, ⟨K.ok.loc.kind, K.ok.loc.glob, K.ok.loc.blt, K.ok.loc.offL, fun j w e => ?_⟩, ?_, let ⟨o, e⟩ := K.ok.live; ⟨o, k _ _ nL e⟩⟩, let ⟨m, h⟩ := K.ns; ⟨m, h.at' fun o e => k _ _ nL e⟩, fun y c hc => let ⟨v, o, e, d⟩ := K.cells y c hc; ⟨v, o, k _ _ (nf _ (F.cel y c hc).1) e, d⟩⟩
  · obtain ⟨y, val, ey, ry, ly⟩ := K.ok.loc.val j w e
    refine ⟨y, val, ey, ry.kp hK zg, ?_⟩
    rcases ly with ⟨kd, m', hns, hm⟩ | ⟨c, kd, hc, ⟨o, eo, d⟩, hz⟩
    · exact .inl ⟨kd, m', hns.at' fun o e => k _ _ nL e, hm⟩
    · exact .inr ⟨c, kd, hc, ⟨o, k _ _ (nf _ (F.cel y c hc).1) eo, d⟩, hz⟩
  · rcases K.ok.hnd with h | ⟨hq, e, o, vs, h1, h2, h3, h4, h5⟩
    · exact .inl h
    · exact .inr ⟨hq, e, o, vs, h1, hK _ _ h2 h5, h3, h4, fun z => h5 (dS z)⟩
structure It (C : Cx) (A : Around) (q : Bool) (target : Expr) (V : Vo) (I : Addr) (wr : List Addr) (xs : List AV) (G : St → Prop) (inv : Nat → St → (Nat → Option Nat) → Shared → Prop) : Prop where
  step : ∀ X i σ ow s σ' ow' s', inv i σ ow s → Good C (V.plus wr) σ ow s → SStp X V.fs (Own σ ow) (Own σ' ow') s s' → Good C (V.plus wr) σ' ow' s' → G σ' → inv i σ' ow' s'
  next : ∀ i x σ ow s (Q : Value → Shared → Prop) E, xs[i]? = some x → inv i σ ow s → Good C (V.plus wr) σ ow s → G σ →
    (∀ v h' tk, VR C (Zs σ ow (zss (V.plus wr))) h' x v → inv (i + 1) σ ow { s with heap := h', toks := tk } → (∀ b o, b ∉ wr → s.heap.get? b = some o → h'.get? b = some o) → (∀ b ∈ wr, ∃ o, h'.get? b = some o) → Q v { s with heap := h', toks := tk }) →
    wpAny (model C.prog C.w) A (pyNext (.ref I)) (fun r s₁ => match r with | Option.none => False | some v => wpAny (model C.prog C.w) A (letOwnedTupleGo target (.ref I) v) (fun _ s₂ => Q v s₂) E s₁) E s
  done : ∀ σ ow s (Q : Option Value → Shared → Prop) E, inv xs.length σ ow s → Good C (V.plus wr) σ ow s → HOk A q (Zs σ ow (zss (V.plus wr))) s.heap → G σ →
    (∀ h' tk, (∀ b o, b ∉ wr → s.heap.get? b = some o → h'.get? b = some o) → Q Option.none { s with heap := h', toks := tk }) → wpAny (model C.prog C.w) A (pyNext (.ref I)) Q E s
  move : ∀ i σ ow s h' tk, inv i σ ow s → Good C (V.plus wr) σ ow s → (∀ b o, (b ∈ V.its → b ∈ wr) → s.heap.get? b = some o → h'.get? b = some o) → inv i σ ow { s with heap := h', toks := tk }
  self : ∀ i σ ow s (Q : Value → Shared → Prop) E, inv i σ ow s → Good C (V.plus wr) σ ow s → Q (.ref I) s → wpAny (model C.prog C.w) A (pyIter (.ref I)) Q E s
noncomputable def BindP (C : Cx) (A : Around) (q : Bool) (env : Env) (V : Vo) (nms : List Str) (target : Expr) (Bd : AV → Loc → Loc → Prop) : Prop :=
  ∀ ρ ρ' σ ow s v u (Q : Unit → Shared → Prop) E, SOk C A q env V nms ρ σ ow s → VR C (Zs σ ow (zss V)) s.heap v u → Bd v ρ ρ' →
    (∀ s', SStp (eu env) V.fs (Own σ ow) (Own σ ow) s s' → SOk C A q env V nms ρ' σ ow s' → Q () s') → wpAny (model C.prog C.w) A (assign target env u) Q E s
theorem BindP.one (F : FEnv env nms V outer) {i : Nat} {x : Str} {pos : Pos} (hx : nms[i]? = some x) : BindP C A q env V nms (.Name x pos) (fun v ρ ρ' => ρ' = cY ρ i v) :=
  fun ρ ρ' σ ow s v u Q E k r e K => by
    subst e
    exact assign_Name (dQ F hx k r K)
theorem pc (F : FEnv env nms V outer) (hA : A.frames = some V.l) {target : Expr} {Bd : AV → Loc → Loc → Prop} {B : AV → Loc → St → QS → Prop} {body : List Stmt} {I : Addr} {xs : List AV} {G : St → Prop} {inv : Nat → St → (Nat → Option Nat) → Shared → Prop} {W : WS}
    (it : It C A q target V I wr xs G inv) (hB : Cj C A q env (V.plus wr) nms (execs body env) W) (hT : BindP C A q env (V.plus wr) nms target Bd)
    {σ₀ : St} {ow₀ : Nat → Option Nat} {s₀ : Shared} {Qa : QS} {Ea : ES} {Q : Flow → Shared → Prop} {E : Value → Shared → Prop} (hb : C.base.StaysIn s₀.heap) (fr : ∀ b ∈ wr, s₀.heap.get? b = Option.none) (nz : ∀ b ∈ wr, b ∉ V.its)
    (ks : KS C A q env V nms σ₀ ow₀ s₀ Qa Q) (kx : KXS C A q env V nms σ₀ ow₀ s₀ Ea E)
    (hi : inv 0 σ ow s) (k : SOk C A q env (V.plus wr) nms ρ σ ow s) (st : SStp (eu env) V.fs (Own σ₀ ow₀) (Own σ ow) s₀ s)
    (hBd : ∀ v ρ σ R, B v ρ σ R → ∃ ρ', Bd v ρ ρ' ∧ W ρ' σ R Ea) (w : forL G B xs ρ σ Qa) :
    codeAny (model C.prog C.w) A (.forLoop target (.ref I) body [] env) (fun r s' => match r with | .ok f => Q f s' | .error e => cameBackBy (model C.prog C.w) A env E e s') s := by
  refine codeAny_forLoop_any (fun n s => ∃ i ρ σ ow, n = xs.length - i ∧ i ≤ xs.length ∧ inv i σ ow s ∧ SOk C A q env (V.plus wr) nms ρ σ ow s ∧ SStp (eu env) V.fs (Own σ₀ ow₀) (Own σ ow) s₀ s ∧
    forL G B (xs.drop i) ρ σ Qa) ?_ xs.length ⟨0, ρ, σ, ow, by omega, by omega, hi, k, st, by simpa using w⟩
  rintro m s ⟨i, ρ, σ, ow, hn, hle, hi, k, st, w⟩
  have nf : ∀ b ∈ V.fs, b ∉ wr := fun b m n => k.ok.good.apart b (List.mem_append_left _ n) m
  by_cases hlt : i < xs.length
  · have hd : xs.drop i = xs[i] :: xs.drop (i + 1) := List.drop_eq_getElem_cons hlt
    rw [hd] at w
    obtain ⟨hG, w⟩ := w
    · refine wpAny_mono (it.next i xs[i] σ ow s _ _ (List.getElem?_eq_getElem hlt) hi k.ok.good hG ?_) (fun r s₁ h₁ => by
        cases r with
        | none => exact False.elim h₁
        | some v => exact h₁) fun _ _ z => z
      intro v h' tk r hi' hk lv
      have k' := k.its (t := tk) F hk lv
      have st' := st.its (t := tk) nf hk fr
      obtain ⟨ρ', hbd, w⟩ := hBd _ _ _ _ w
      refine hT ρ ρ' σ ow _ _ v _ _ k' r hbd fun s₂ st₂ k₂ => ?_
      have st₂' := st'.trans st₂
      have hi₂ := it.step _ (i + 1) σ ow _ σ ow s₂ hi' k'.ok.good st₂ k₂.ok.good hG
      refine hB _ σ ow s₂ _ Ea _ _ w k₂ (fun fl af ρ₃ σ₃ ow₃ s₃ z st₃ k₃ rf => ?_) (fun e c ρ₃ σ₃ ow₃ s₃ z st₃ k₃ th => ?_)
      · cases rf with
        | next =>
          have z : forL G B (xs.drop (i + 1)) ρ₃ σ₃ Qa := z
          have hG3 : G σ₃ := by
            cases hdd : xs.drop (i + 1) with
            | nil => rw [hdd] at z; exact z.1
            | cons y ys => rw [hdd] at z; exact z.1
          exact ⟨xs.length - (i + 1), by omega, i + 1, ρ₃, σ₃, ow₃, rfl, hlt, it.step _ (i + 1) σ ow _ σ₃ ow₃ s₃ hi₂ k₂.ok.good st₃ k₃.ok.good hG3, k₃, st₂'.trans st₃, z⟩
        | ret r' => exact ks _ _ ρ₃ σ₃ ow₃ s₃ z (st₂'.trans st₃) k₃.close_ (.ret (r'.kp (fun _ _ e _ => e) fun b z => .inl (dS z)))
      · exact qa F hA hb (st₂'.trans st₃) k₃.close_ (ThrA.up (st₂'.back k₂.ok.good) (th.mono (fun _ z => z) fun _ z => dS z)) z kx
  · have he : i = xs.length := by omega
    subst he
    rw [List.drop_length] at w
    obtain ⟨hG, w⟩ := w
    refine it.done σ ow s _ _ hi k.ok.good k.ok.hnd hG fun h' tk hk => ?_
    exact wpAny_execs_nil (ks _ _ ρ σ ow _ w (st.its nf hk fr) (k.drop F nz hk) .next)
end
end Ap
end
section
namespace Ap
open PySem PySem.Calls PyProof.Rows
section
variable {C : Cx} {A : Around} {q : Bool} {env : Env} {V : Vo} {nms : List Str} {ρ : Loc} {σ σ' : St} {ow ow' : Nat → Option Nat} {s s' : Shared} {outer : List Env} {wr : List Addr}
theorem oP {target : Expr} {I l : Addr} {i : Nat} {v : Value} {Q : Unit → Shared → Prop} {E : Value → Shared → Prop} (hit : s.heap.IsListIter I l i) (hQ : Q () s) : wpAny (model C.prog C.w) A (letOwnedTupleGo target (.ref I) v) Q E s := by
  obtain ⟨o, ho, hc, hd⟩ := hit
  have key : wpAny (model C.prog C.w) A (do
      let (.ref r, .ref a) := ((.ref I : Value), v) | return
      let o ← load r
      match o.cls, o.data with
      | .type n, .fields vs =>
        if ["enumerate", "zip", "dict_itemiterator", "dict_reverseitemiterator", "odict_iterator", "itertools.zip_longest", "itertools.pairwise"].contains n && vs[0]? == some (rawInt a) then
          rule "for.unpacks-the-owned-tuple"
          updateField r 0 .none
      | _, _ => pure ()) Q E s := by
    cases v <;> first | exact wpAny_pure hQ | skip
    refine wpAny_bind (wpAny_load ho ?_)
    rw [hc, hd]
    exact wpAny_pure hQ
  unfold letOwnedTupleGo
  cases target <;> first | exact key | exact wpAny_pure hQ
theorem nu {X : List Addr} {I : Addr} {o : Obj} (G : Good C (V.plus wr) σ ow s) (hI : I ∈ wr) (x : SStp X V.fs (Own σ ow) (Own σ' ow') s s') (e : s.heap.get? I = some o) : s'.heap.get? I = some o :=
  x.keep I o e (G.off I (Vo.plus_wr hI)) (G.apart I (List.mem_append_left _ hI))
theorem HOk.low {Z : Nat → Prop} {h : Heap} (x : HOk A q Z h) : CL A h := x.imp id fun ⟨_, e, o, vs, h1, h2, h3, h4, _⟩ => ⟨e, o, vs, h1, h2, h3, h4⟩
theorem HOk.ne {Z : Nat → Prop} {h : Heap} {I : Addr} (x : HOk A q Z h) (hI : Z I) (e : Addr) (he : A.handled = some (.ref e)) : e ≠ I := by
  rcases x with x | ⟨_, e', o, vs, h1, h2, h3, h4, h5⟩
  · rw [x] at he; cases he
  · rw [h1] at he; cases he; exact fun q => h5 (q ▸ hI)
noncomputable def EY (C : Cx) (V : Vo) (I ax : Addr) (vs : List Value) (xs : List AV) (i : Nat) (σ : St) (ow : Nat → Option Nat) (s : Shared) : Prop :=
  s.heap.IsListIter I ax i ∧ IsL s.heap ax vs ∧ VRs C (Zs σ ow (zss (V.plus [I]))) s.heap xs vs ∧ ¬ Zs σ ow (zss (V.plus [I])) ax
theorem It.ilist {target : Expr} {I ax : Addr} {vs : List Value} {xs : List AV} {G : St → Prop} : It C A q target V I [I] xs G (EY C V I ax vs xs) where
  step := fun X i σ ow s σ' ow' s' ⟨⟨o, e1, e2, e3⟩, li, r, n⟩ g x g' _ => by
    have li' := li.kp (x.kp (zs := zss (V.plus [I])) (V.plus [I]).sub) n
    refine ⟨⟨o, nu g (by simp) x e1, e2, e3⟩, li', SStp.vrs (envs := V.plus [I]) x r, ?_⟩
    obtain ⟨_, m, e⟩ := li
    exact (x.zg (zs := zss (V.plus [I]))).not e n
  next := fun i x σ ow s Q E hx ⟨it, li, r, n⟩ g _ h => by
    obtain ⟨u, hu, ru⟩ := r.get i x hx
    obtain ⟨hh, gg, dd, tt, oo⟩ := s
    refine wpAny_pyNext_list_item it li.isList (by simpa using hu) fun h' it' hs => ?_
    have hk : ∀ b o, b ∉ [I] → hh.get? b = some o → h'.get? b = some o := fun b o nb e => (hs.2 b (by simpa using nb)).trans e
    have hK : Kp (Zs σ ow (zss (V.plus [I]))) hh h' := fun b o e nb => hk b o (fun m => nb (.inr (Vo.plus_wr m))) e
    exact oP (s := ⟨h', gg, dd, tt, oo⟩) it' (h u h' tt (ru.kp hK (Zg.refl _ _)) ⟨it', li.kp hK n, r.kp hK (Zg.refl _ _), n⟩ hk fun b m => by
      obtain ⟨o, e, _⟩ := it'
      exact ⟨o, by rw [List.mem_singleton.mp m]; exact e⟩)
  done := fun σ ow s Q E ⟨it, li, r, n⟩ g hh _ h => by
    obtain ⟨hp, gg, dd, tt, oo⟩ := s
    refine jr hh.low it li.isList (by rw [List.getElem?_toArray, List.getElem?_eq_none]; rw [r.length]; exact Nat.le_refl _) (fun e he => hh.ne (.inr (Vo.plus_wr (by simp))) e he) fun h' hx lv => ?_
    exact h h' tt (fun b o nb e => hx b o (by simpa using nb) e)
  move := fun i σ ow s h' tk ⟨⟨o, e1, e2, e3⟩, li, r, n⟩ g k => by
    have hK : Kp (Zs σ ow (zss (V.plus [I]))) s.heap h' := fun b o e nb => k b o (fun m => absurd (.inr (Vo.plus_sub b (List.mem_append_right _ m))) nb) e
    exact ⟨⟨o, k _ _ (fun _ => by simp) e1, e2, e3⟩, li.kp hK n, r.kp hK (Zg.refl _ _), n⟩
  self := fun i σ ow s Q E ⟨it, _⟩ g h => wpAny_pyIter_listiter it h
theorem It.own {target : Expr} {I a : Addr} {xs : List AV} : It C A q target V I [I] xs (fun σ => σ a = some (.list xs)) (fun i σ ow s => s.heap.IsListIter I a i) where
  step := fun X i σ ow s σ' ow' s' ⟨o, e1, e2, e3⟩ g x g' _ => ⟨o, nu g (by simp) x e1, e2, e3⟩
  next := fun i x σ ow s Q E hx it g hG h => by
    obtain ⟨vs, li, r⟩ := g.store _ _ hG
    obtain ⟨u, hu, ru⟩ := r.get i x hx
    obtain ⟨hh, gg, dd, tt, oo⟩ := s
    refine wpAny_pyNext_list_item it li.isList (by simpa using hu) fun h' it' hs => ?_
    have hk : ∀ b o, b ∉ [I] → hh.get? b = some o → h'.get? b = some o := fun b o nb e => (hs.2 b (by simpa using nb)).trans e
    have hK : Kp (Zs σ ow (zss (V.plus [I]))) hh h' := fun b o e nb => hk b o (fun m => nb (.inr (Vo.plus_wr m))) e
    exact oP (s := ⟨h', gg, dd, tt, oo⟩) it' (h u h' tt (ru.kp hK (Zg.refl _ _)) it' hk fun b m => by
      obtain ⟨o, e, _⟩ := it'
      exact ⟨o, by rw [List.mem_singleton.mp m]; exact e⟩)
  done := fun σ ow s Q E it g hh hG h => by
    obtain ⟨vs, li, r⟩ := g.store _ _ hG
    obtain ⟨hp, gg, dd, tt, oo⟩ := s
    refine jr hh.low it li.isList (by rw [List.getElem?_toArray, List.getElem?_eq_none]; rw [r.length]; exact Nat.le_refl _) (fun e he => hh.ne (.inr (Vo.plus_wr (by simp))) e he) fun h' hx lv => ?_
    exact h h' tt (fun b o nb e => hx b o (by simpa using nb) e)
  move := fun i σ ow s h' tk ⟨o, e1, e2, e3⟩ g k => ⟨o, k _ _ (fun _ => by simp) e1, e2, e3⟩
  self := fun i σ ow s Q E it g h => wpAny_pyIter_listiter it h
end
end Ap
end
section
namespace Ap
open PySem PySem.Calls PyProof.Rows
noncomputable def fg : Expr → Bool
  | .Name .. => true
  | .Attribute .. => true
  | .Subscript .. => true
  | .Constant .. => true
  | _ => false
theorem ln {o : Expr} {name : Str} {env : Env} {t : Sem Value} (h : fg o = true) : attributeBase o name env t = t := by
  cases o <;> first | rfl | exact Bool.noConfusion h
noncomputable def gl (sc : Scope) (x : Str) : Bool := sc.names.lookup x == some .globalImplicit && !(x == ("__debug__" : Str)) && !(x == ("__name__" : Str))
noncomputable def vd : Expr → Bool
  | .UnaryOp .Not .. => false
  | .BoolOp .. => false
  | .IfExp .. => false
  | .Compare .. => false
  | _ => true
noncomputable def wT (w : WE) : WBl := fun ρ σ Q E => w ρ σ (onT Q) E
structure Both (C : Cx) (d : Nat) (sc : Scope) (nms : List Str) (q : Bool) (w : WE) (x : Expr) : Prop where
  ev : ∀ A env envs ρ, env.scope = sc → AOk A envs d → Snd C A q env envs nms ρ (RV C) (eval x env) (w ρ)
  tr : ∀ A env envs ρ, env.scope = sc → AOk A envs d → Snd C A q env envs nms ρ (RB C) (isTrue x env (eval x env)) (wT w ρ)
inductive BothL (C : Cx) (d : Nat) (sc : Scope) (nms : List Str) (q : Bool) : WL → List Expr → Prop
  | nil : BothL C d sc nms q ar []
  | cons {e : WE} {x : Expr} {es : WL} {xs : List Expr} : Both C d sc nms q e x → df x = true → BothL C d sc nms q es xs → BothL C d sc nms q (aa e es) (x :: xs)
inductive BothBl (C : Cx) (d : Nat) (sc : Scope) (nms : List Str) (q and : Bool) : WBl → List Expr → Prop
  | one {e : WE} {x : Expr} : Both C d sc nms q e x → BothBl C d sc nms q and (aV and e (cV and)) [x]
  | cons {e : WE} {x y : Expr} {r : WBl} {xs : List Expr} : Both C d sc nms q e x → BothBl C d sc nms q and r (y :: xs) → BothBl C d sc nms q and (aV and e r) (x :: y :: xs)
inductive BothC (C : Cx) (d : Nat) (sc : Scope) (nms : List Str) (q : Bool) : (AV → WBl) → List CmpOp → List Expr → Prop
  | one {f : OC} {op : CmpOp} {e : WE} {x : Expr} : CmpSnd C op f → Both C d sc nms q e x → BothC C d sc nms q (aS f e bF) [op] [x]
  | cons {f : OC} {op o' : CmpOp} {e : WE} {x y : Expr} {r : AV → WBl} {os : List CmpOp} {xs : List Expr} : CmpSnd C op f → Both C d sc nms q e x → BothC C d sc nms q r (o' :: os) (y :: xs) → BothC C d sc nms q (aS f e r) (op :: o' :: os) (x :: y :: xs)
section
variable {C : Cx} {T : Tabs} {P : Prg} {F : Calls} {d : Nat} {sc : Scope} {nms : List Str} {q : Bool}
theorem sC {x : Expr} {env : Env} {t : Sem Value} (h : vd x = true) : isTrue x env t = (do let v ← t; standAt x.pos; holding [v] (truthy v)) := by
  cases x with
  | UnaryOp op y p => cases op <;> first | rfl | exact Bool.noConfusion h
  | _ => first | rfl | exact Bool.noConfusion h
theorem rg {R : Bool → St → Prop} {v : AV} {σ : St} {Z : Nat → Prop} {h : Heap} {u : Value} (r : VR C Z h v u) (w : onT R v σ) : ∃ b, v = .bool b ∧ u = .bool b ∧ R b σ := by
  cases r <;> first | exact False.elim w | exact ⟨_, rfl, rfl, w⟩
theorem Both.of {w : WE} {x : Expr} (h : vd x = true) (ev : ∀ A env envs ρ, env.scope = sc → AOk A envs d → Snd C A q env envs nms ρ (RV C) (eval x env) (w ρ)) : Both C d sc nms q w x where
  ev := ev
  tr := fun A env envs ρ hs ha σ ow s Qa Ea Q E w ok kv kx => by
    rw [sC h]
    refine wpAny_bind (ev A env envs ρ hs ha σ ow s _ Ea _ E w ok (fun v av σ' ow' s' z st g r => ?_) kx)
    refine wpAny_bind (wpAny_standAt (wpAny_holding ?_))
    obtain ⟨b, rfl, rfl, z⟩ := rg r z
    exact wpAny_truthy_bool (kv _ _ σ' ow' s' z st g rfl)
theorem BothL.stars {es : WL} {xs : List Expr} (h : BothL C d sc nms q es xs) : xs.all df = true := by
  induction h with
  | nil => rfl
  | cons _ h2 _ ih => rw [List.all_cons, h2, ih]; rfl
noncomputable def RLn (C : Cx) (n : Nat) (Z : Nat → Prop) (h : Heap) (av : List AV) (v : List Value) : Prop := VRs C Z h av v ∧ v.length = n
theorem BothL.snd {A : Around} {env : Env} {envs : Vo} {ρ : Loc} {pos : Pos} (hs : env.scope = sc) (ha : AOk A envs d) {es : WL} {xs : List Expr} (h : BothL C d sc nms q es xs) :
    Snd C A q env envs nms ρ (RLn C xs.length) (spliced (backTo pos (starEach xs env))) (es ρ) := by
  induction h with
  | nil => exact fun σ ow s Qa Ea Q E w ok kv kx => spliced_nil (kv _ _ σ ow s w (Stp.refl _ _ _) ok.good ⟨.nil, rfl⟩)
  | cons h1 h2 _ ih =>
    intro σ ow s Qa Ea Q E w ok kv kx
    rw [cK h2]
    refine spliced_cons (h1.ev A env envs ρ hs ha σ ow s _ Ea _ E w ok (fun v av σ' ow' s' z st g r => ?_) kx)
    refine ih σ' ow' s' _ Ea _ E z (ok.stp st g) (fun vs avs σ'' ow'' s'' z' st' g' r' => ?_) (kx.stp st g)
    exact kv _ _ σ'' ow'' s'' z' (st.trans st') g' ⟨.cons (st'.vr r) r'.1, congrArg Nat.succ r'.2⟩
variable {A : Around} {env : Env} {envs : Vo} {ρ : Loc} {pos : Pos} {σ : St} {ow : Nat → Option Nat} {s : Shared}
theorem kZ {r : WBl} {ρ : Loc} {Q : Bool → St → Prop} {E : PE} {b and : Bool} {σ : St} (z : kBl and r ρ Q E b σ) : (b = and ∧ r ρ σ Q E) ∨ (b ≠ and ∧ Q b σ) := by
  cases b <;> cases and <;> first | exact .inl ⟨rfl, z⟩ | exact .inr ⟨by decide, z⟩
theorem BothBl.ev (hs : env.scope = sc) (ha : AOk A envs d) {and : Bool} {r : WBl} {xs : List Expr} (h : BothBl C d sc nms q and r xs) :
    Snd C A q env envs nms ρ (fun _ _ (b : Bool) (v : Value) => v = .bool b) (boolOp pos (if and then .And else .Or) (evalEach xs env)) (r ρ) := by
  induction h with
  | @one e x h =>
    intro σ ow s Qa Ea Q E w ok kv kx
    show wpAny _ _ (eval x env) _ _ _
    refine h.ev A env envs ρ hs ha σ ow s _ Ea _ E w ok (fun v av σ' ow' s' z st g r => ?_) kx
    obtain ⟨b, rfl, rfl, z⟩ := rg r z
    refine kv (.bool b) b σ' ow' s' ?_ st g rfl
    rcases kZ z with ⟨rfl, z⟩ | ⟨_, z⟩
    · exact z
    · exact z
  | @cons e x y r xs h _ ih =>
    intro σ ow s Qa Ea Q E w ok kv kx
    show wpAny _ _ (do
      let v ← eval x env
      standAt pos
      let t ← holding [v] (truthy v)
      match (if and then BoolOp.And else .Or), t with
      | .And, false | .Or, true => pure v
      | _, _ => boolOp pos (if and then BoolOp.And else .Or) (evalEach (y :: xs) env)) _ _ _
    refine wpAny_bind (h.ev A env envs ρ hs ha σ ow s _ Ea _ E w ok (fun v av σ' ow' s' z st g r => ?_) kx)
    refine wpAny_bind (wpAny_standAt (wpAny_bind (wpAny_holding ?_)))
    obtain ⟨b, rfl, rfl, z⟩ := rg r z
    refine wpAny_truthy_bool ?_
    rcases kZ z with ⟨hb, z'⟩ | ⟨hb, z'⟩
    · have R := ih σ' ow' s' Qa Ea Q E z' (ok.stp st g) (kv.stp st) (kx.stp st g)
      subst hb
      cases b <;> exact R
    · have R := kv _ _ σ' ow' s' z' st g rfl
      cases and <;> cases b <;> first | exact absurd rfl hb | exact wpAny_pure R
theorem BothBl.tr (hs : env.scope = sc) (ha : AOk A envs d) {and : Bool} {r : WBl} {xs : List Expr} (h : BothBl C d sc nms q and r xs) :
    Snd C A q env envs nms ρ (RB C) (allTrue (if and then .And else .Or) xs env) (r ρ) := by
  have step : ∀ (e : WE) (x : Expr) (xs : List Expr) (r : WBl), Both C d sc nms q e x → Snd C A q env envs nms ρ (RB C) (allTrue (if and then .And else .Or) xs env) (r ρ) → Snd C A q env envs nms ρ (RB C) (allTrue (if and then .And else .Or) (x :: xs) env) (aV and e r ρ) := by
    intro e x xs r h ih σ ow s Qa Ea Q E w ok kv kx
    show wpAny _ _ (do
      match (if and then BoolOp.And else .Or), ← isTrue x env (eval x env) with
      | .And, false => pure false
      | .Or, true => pure true
      | _, _ => PySem.allTrue (if and then BoolOp.And else .Or) xs env) _ _ _
    refine wpAny_bind (h.tr A env envs ρ hs ha σ ow s _ Ea _ E w ok (fun v b σ' ow' s' z st g r => ?_) kx)
    have r' : b = v := r
    subst r'
    rcases kZ z with ⟨hb, z'⟩ | ⟨hb, z'⟩
    · have R := ih σ' ow' s' Qa Ea Q E z' (ok.stp st g) (kv.stp st) (kx.stp st g)
      subst hb
      cases b <;> exact R
    · have R := kv _ _ σ' ow' s' z' st g rfl
      cases and <;> cases b <;> first | exact absurd rfl hb | exact wpAny_pure R
  induction h with
  | one h =>
    refine step _ _ _ _ h fun σ ow s Qa Ea Q E w ok kv kx => wpAny_pure (kv _ _ σ ow s w (Stp.refl _ _ _) ok.good ?_)
    cases and <;> rfl
  | cons h _ ih => exact step _ _ _ _ h ih
theorem jR {vb : AV} {r : AV → WBl} {ρ : Loc} {Q : Bool → St → Prop} {E : PE} {σ : St} {b : Bool} (z : wv vb r ρ Q E σ b) : (b = false ∧ Q false σ) ∨ (b = true ∧ r vb ρ σ Q E) := by
  cases b
  · exact .inl ⟨rfl, z⟩
  · exact .inr ⟨rfl, z⟩
theorem BothC.ev (hs : env.scope = sc) (ha : AOk A envs d) {r : AV → WBl} {cs : List CmpOp} {xs : List Expr} (h : BothC C d sc nms q r cs xs) :
    ∀ (va : AV) (a : Value) (σ : St) (ow : Nat → Option Nat) (s : Shared) (Qa : Bool → St → Prop) (Ea : PE) (Q : Value → Shared → Prop) (E : Value → Shared → Prop), VR C (Zs σ ow (zss envs)) s.heap va a →
    r va ρ σ Qa Ea → Ok C A q env envs nms ρ σ ow s → KV C envs σ ow s (fun _ _ (b : Bool) (v : Value) => v = .bool b) Qa Q → KX C envs σ ow s Ea E →
    wpAny (model C.prog C.w) A (compareChain pos a cs (evalEach xs env)) Q E s := by
  induction h with
  | one hf h =>
    intro va a σ ow s Qa Ea Q E ra w ok kv kx
    refine chain_last (h.ev A env envs ρ hs ha σ ow s _ Ea _ E w ok (fun v av σ' ow' s' z st g r => ?_) kx)
    refine hf A envs σ' ow' s' _ _ _ _ _ _ _ ha.u64 g (st.vr ra) r z fun b t hb => kv _ b σ' ow' _ ?_ (st.tk t) (g.tk t) rfl
    rcases jR hb with ⟨rfl, z⟩ | ⟨rfl, z⟩ <;> exact z
  | cons hf h _ ih =>
    intro va a σ ow s Qa Ea Q E ra w ok kv kx
    refine chain_link (h.ev A env envs ρ hs ha σ ow s _ Ea _ E w ok (fun v av σ' ow' s' z st g r => ?_) kx)
    refine hf A envs σ' ow' s' _ _ _ _ _ _ _ ha.u64 g (st.vr ra) r z fun b t hb => ?_
    refine wpAny_truthy_bool ?_
    rcases jR hb with ⟨rfl, z⟩ | ⟨rfl, z⟩
    · exact kv _ false σ' ow' _ z (st.tk t) (g.tk t) rfl
    · exact ih _ _ σ' ow' _ Qa Ea Q E r z (ok.stp (st.tk t) (g.tk t)) (kv.stp (st.tk t)) (kx.stp (st.tk t) (g.tk t))
theorem BothC.tr (hs : env.scope = sc) (ha : AOk A envs d) {r : AV → WBl} {cs : List CmpOp} {xs : List Expr} (h : BothC C d sc nms q r cs xs) :
    ∀ (va : AV) (a : Value) (σ : St) (ow : Nat → Option Nat) (s : Shared) (Qa : Bool → St → Prop) (Ea : PE) (Q : Bool → Shared → Prop) (E : Value → Shared → Prop), VR C (Zs σ ow (zss envs)) s.heap va a →
    r va ρ σ Qa Ea → Ok C A q env envs nms ρ σ ow s → KV C envs σ ow s (RB C) Qa Q → KX C envs σ ow s Ea E →
    wpAny (model C.prog C.w) A (testChain pos a cs (evalEach xs env)) Q E s := by
  induction h with
  | one hf h =>
    intro va a σ ow s Qa Ea Q E ra w ok kv kx
    refine test_last (h.ev A env envs ρ hs ha σ ow s _ Ea _ E w ok (fun v av σ' ow' s' z st g r => ?_) kx)
    refine hf A envs σ' ow' s' _ _ _ _ _ _ _ ha.u64 g (st.vr ra) r z fun b t hb => wpAny_truthy_bool (kv _ b σ' ow' _ ?_ (st.tk t) (g.tk t) rfl)
    rcases jR hb with ⟨rfl, z⟩ | ⟨rfl, z⟩ <;> exact z
  | cons hf h _ ih =>
    intro va a σ ow s Qa Ea Q E ra w ok kv kx
    refine test_link (h.ev A env envs ρ hs ha σ ow s _ Ea _ E w ok (fun v av σ' ow' s' z st g r => ?_) kx)
    refine hf A envs σ' ow' s' _ _ _ _ _ _ _ ha.u64 g (st.vr ra) r z fun b t hb => ?_
    refine wpAny_truthy_bool ?_
    rcases jR hb with ⟨rfl, z⟩ | ⟨rfl, z⟩
    · exact kv _ false σ' ow' _ z (st.tk t) (g.tk t) rfl
    · exact ih _ _ σ' ow' _ Qa Ea Q E r z (ok.stp (st.tk t) (g.tk t)) (kv.stp (st.tk t)) (kx.stp (st.tk t) (g.tk t))
end
end Ap
end
section
namespace Ap
open PySem PySem.Calls PyProof.Rows
section
variable {C : Cx} {T : Tabs} {P : Prg} {F : Calls} {d : Nat} {sc : Scope} {nms : List Str} {q : Bool}
theorem Both.var {i : Nat} {n : Str} {pos : Pos} (h1 : nms[i]? = some n) (h2 : (n == ("__debug__" : Str)) = false) (h3 : (n == ("__classdict__" : Str)) = false) : Both C d sc nms q (ac i) (.Name n pos) :=
  .of rfl fun A env envs ρ hs ha σ ow s Qa Ea Q E w ok kv kx => by
    obtain ⟨v, e, w⟩ := gU w
    exact zo h1 h2 h3 ok kv e w
theorem Both.none {k : Nat} {pos : Pos} : Both C d sc nms q (vC .none) (.Constant .none k pos) :=
  .of rfl fun A env envs ρ hs ha σ ow s Qa Ea Q E w ok kv kx => wpAny_Constant_none (kv.here ok.good w .none)
theorem Both.bool {b : Bool} {k : Nat} {pos : Pos} : Both C d sc nms q (vC (.bool b)) (.Constant (.bool b) k pos) :=
  .of rfl fun A env envs ρ hs ha σ ow s Qa Ea Q E w ok kv kx => wpAny_Constant_bool (kv.here ok.good w (.bool b))
theorem Both.int {i : Int} {k : Nat} {pos : Pos} : Both C d sc nms q (vC (.int i)) (.Constant (.int i) k pos) :=
  .of rfl fun A env envs ρ hs ha σ ow s Qa Ea Q E w ok kv kx => wpAny_Constant_int (kv.val ok.good _ w (.int i _))
theorem Both.str {x : Str} {k : Nat} {pos : Pos} (h : PyData.strOk x = true) : Both C d sc nms q (vC (.str x)) (.Constant (.str x) k pos) :=
  .of rfl fun A env envs ρ hs ha σ ow s Qa Ea Q E w ok kv kx => wpAny_Constant_str (kv.val ok.good _ w (.str x _ h))
theorem ef {x : Str} (h : gl sc x = true) : sc.names.lookup x = some .globalImplicit ∧ (x == ("__debug__" : Str)) = false ∧ x ≠ "__name__" := by
  unfold gl at h
  rw [Bool.and_eq_true, Bool.and_eq_true, beq_iff_eq, Bool.not_eq_true', Bool.not_eq_true'] at h
  exact ⟨h.1.1, h.1.2, fun e => by rw [e] at h; exact absurd h.2 (by decide)⟩
theorem Both.tup {es : WL} {xs : List Expr} {k : Nat} {pos : Pos} (h : BothL C d sc nms q es xs) (hl : xs.length ≤ 1000) : Both C d sc nms q (et es) (.Tuple xs k pos) :=
  .of rfl fun A env envs ρ hs ha σ ow s Qa Ea Q E w ok kv kx => by
    refine wpAny_Tuple (h.snd hs ha σ ow s _ Ea _ E w ok (fun vs avs σ' ow' s' z st g r => ?_) kx)
    have hv : vs.length ≤ 1000 := by rw [r.2]; exact hl
    refine ⟨by unfold sizeLine; omega, ?_⟩
    obtain ⟨hh, gg, dd, tt, oo⟩ := s'
    exact (kv.stp st).pushed g tt z (.tup ⟨by omega, _, Heap.get?_push_size _ rfl⟩ g.newZ (r.1.kp (fun _ _ e _ => Heap.get?_push_of_some _ e) (Zg.refl _ _)))
theorem Both.lst {own : Bool} {es : WL} {xs : List Expr} {pos : Pos} (h : BothL C d sc nms q es xs) (hl : xs.length ≤ 1000) : Both C d sc nms q (cU own es) (.List xs pos) :=
  .of rfl fun A env envs ρ hs ha σ ow s Qa Ea Q E w ok kv kx => by
    refine wpAny_List (h.snd hs ha σ ow s _ Ea _ E w ok (fun vs avs σ' ow' s' z st g r => ?_) kx)
    have hv : vs.length ≤ 1000 := by rw [r.2]; exact hl
    refine ⟨by unfold sizeLine; omega, ?_⟩
    obtain ⟨hh, gg, dd, tt, oo⟩ := s'
    exact qA g (kv.stp st) tt (by omega) z r.1
theorem Both.bin {f : O2} {op : Operator} {a b : WE} {l r : Expr} {pos : Pos} (hf : BinSnd C op f) (ha' : Both C d sc nms q a l) (hb : Both C d sc nms q b r) : Both C d sc nms q (vO2 f a b) (.BinOp l op r pos) :=
  .of rfl fun A env envs ρ hs ha σ ow s Qa Ea Q E w ok kv kx => by
    refine wpAny_BinOp (ha'.ev A env envs ρ hs ha σ ow s _ Ea _ E w ok (fun va a σ' ow' s' z st g r => ?_) kx)
    refine hb.ev A env envs ρ hs ha σ' ow' s' _ Ea _ E z (ok.stp st g) (fun vb b σ'' ow'' s'' z' st' g' r' => ?_) (kx.stp st g)
    exact hf A envs σ'' ow'' s'' _ _ _ _ _ _ _ g' ((kv.stp st).stp st') (st'.vr r) r' z'
theorem Both.idx {f : O2} {e i : WE} {v sl : Expr} {pos : Pos} (hf : iw C f) (he : Both C d sc nms q e v) (hi : Both C d sc nms q i sl) (hp : ∀ o i, subscripted sl false o i = operate [o, i] (getItem o i)) : Both C d sc nms q (vO2 f e i) (.Subscript v sl pos) :=
  .of rfl fun A env envs ρ hs ha σ ow s Qa Ea Q E w ok kv kx => by
    refine Subscript_ (he.ev A env envs ρ hs ha σ ow s _ Ea _ E w ok (fun va a σ' ow' s' z st g r => ?_) kx)
    refine hi.ev A env envs ρ hs ha σ' ow' s' _ Ea _ E z (ok.stp st g) (fun vb b σ'' ow'' s'' z' st' g' r' => ?_) (kx.stp st g)
    exact hf A envs σ'' ow'' s'' _ _ _ _ _ _ _ _ _ hp g' ((kv.stp st).stp st') (st'.vr r) r' z'
theorem Both.slice {own : Bool} {lo hi : Nat} {li hj : Int} {e : WE} {v : Expr} {k1 k2 : Nat} {p1 p2 pp pos : Pos} (h1 : li = (lo : Int)) (h2 : hj = (hi : Int)) (he : Both C d sc nms q e v) :
    Both C d sc nms q (vO1 (oSl own lo hi) e) (.Subscript v (.Slice (some (.Constant (.int li) k1 p1)) (some (.Constant (.int hj) k2 p2)) Option.none pp) pos) :=
  .of rfl fun A env envs ρ hs ha σ ow s Qa Ea Q E w ok kv kx => by
    subst h1 h2
    refine Subscript_ (he.ev A env envs ρ hs ha σ ow s _ Ea _ E w ok (fun va a σ' ow' s' z st g r => ?_) kx)
    refine wpAny_Slice (wpAny_Constant_int (k := k1) (pos := p1) (wpAny_Constant_int (k := k2) (pos := p2) (wpAny_pure ?_)))
    exact zF (s := { s' with toks := s'.toks + 1 + 1 }) (g.tk _) ((kv.stp st).stp (Stp.toks _)) r z
theorem Cf {f : Int → St → PQ → Prop} {v : AV} {σ : St} {Q : PQ} {Z : Nat → Prop} {h : Heap} {u : Value} (r : VR C Z h v u) (w : onI f v σ Q) : ∃ i t, u = .int i t ∧ f i σ Q := by
  cases r <;> first | exact False.elim w | exact ⟨_, _, rfl, w⟩
theorem Both.neg {a : WE} {x : Expr} {pos : Pos} (ha' : Both C d sc nms q a x) : Both C d sc nms q (vO1 zC a) (.UnaryOp .USub x pos) :=
  .of rfl fun A env envs ρ hs ha σ ow s Qa Ea Q E w ok kv kx => by
    refine wpAny_UnaryOp (ha'.ev A env envs ρ hs ha σ ow s _ Ea _ E w ok (fun va a σ' ow' s' z st g r => ?_) kx)
    obtain ⟨i, t, rfl, z⟩ := Cf (f := fun x σ Q => Q (.int (-x)) σ) (Q := Qa) r z
    exact PyProof.Rows.neg_int ((kv.stp st).val g _ z (.int _ _))
theorem Both.not {a : WE} {x : Expr} {pos : Pos} (ha' : Both C d sc nms q a x) : Both C d sc nms q (vO1 eX a) (.UnaryOp .Not x pos) where
  ev := fun A env envs ρ hs ha σ ow s Qa Ea Q E w ok kv kx => by
    refine wpAny_UnaryOp (ha'.ev A env envs ρ hs ha σ ow s _ Ea _ E w ok (fun va a σ' ow' s' z st g r => ?_) kx)
    obtain ⟨b, rfl, rfl, z⟩ := rg (R := fun b σ => Qa (.bool (!b)) σ) r z
    exact not_value (wpAny_truthy_bool ((kv.stp st).here g z (.bool _)))
  tr := fun A env envs ρ hs ha σ ow s Qa Ea Q E w ok kv kx => by
    rw [arm_isTrue_UnaryOp]
    have w' : wT a ρ σ (fun b σ' => Qa (!b) σ') Ea := w
    refine wpAny_bind (ha'.tr A env envs ρ hs ha σ ow s _ Ea _ E w' ok (fun v b σ' ow' s' z st g r => ?_) kx)
    have r' : b = v := r
    subst r'
    exact wpAny_pure (kv _ _ σ' ow' s' z st g rfl)
theorem Both.bl {and : Bool} {r : WBl} {xs : List Expr} {pos : Pos} (h : BothBl C d sc nms q and r xs) : Both C d sc nms q (vBl r) (.BoolOp (if and then .And else .Or) xs pos) where
  ev := fun A env envs ρ hs ha σ ow s Qa Ea Q E w ok kv kx => by
    rw [arm_eval_BoolOp]
    refine h.ev hs ha σ ow s _ Ea _ E w ok (fun v b σ' ow' s' z st g r => ?_) kx
    subst r
    exact kv _ _ σ' ow' s' z st g (.bool b)
  tr := fun A env envs ρ hs ha σ ow s Qa Ea Q E w ok kv kx => by
    rw [arm_isTrue_BoolOp]
    exact h.tr hs ha σ ow s _ Ea _ E w ok kv kx
theorem Both.and {r : WBl} {xs : List Expr} {pos : Pos} (h : BothBl C d sc nms q true r xs) : Both C d sc nms q (vBl r) (.BoolOp .And xs pos) := Both.bl (and := true) h
theorem Both.or {r : WBl} {xs : List Expr} {pos : Pos} (h : BothBl C d sc nms q false r xs) : Both C d sc nms q (vBl r) (.BoolOp .Or xs pos) := Both.bl (and := false) h
theorem Both.cmp {a : WE} {l : Expr} {r : AV → WBl} {cs : List CmpOp} {xs : List Expr} {pos : Pos} (ha' : Both C d sc nms q a l) (h : BothC C d sc nms q r cs xs) (hm : lastMarks cs xs = false) : Both C d sc nms q (bG a r) (.Compare l cs xs pos) where
  ev := fun A env envs ρ hs ha σ ow s Qa Ea Q E w ok kv kx => by
    rw [arm_eval_Compare, markedEach_of_false _ _ _ hm]
    refine wpAny_bind (ha'.ev A env envs ρ hs ha σ ow s _ Ea _ E w ok (fun v av σ' ow' s' z st g r => ?_) kx)
    refine h.ev hs ha _ _ σ' ow' s' _ Ea _ E r z (ok.stp st g) (fun v b σ'' ow'' s'' z' st' g' r' => ?_) (kx.stp st g)
    subst r'
    exact kv _ _ σ'' ow'' s'' z' (st.trans st') g' (.bool b)
  tr := fun A env envs ρ hs ha σ ow s Qa Ea Q E w ok kv kx => by
    rw [arm_isTrue_Compare, markedEach_of_false _ _ _ hm]
    refine wpAny_bind (ha'.ev A env envs ρ hs ha σ ow s _ Ea _ E w ok (fun v av σ' ow' s' z st g r => ?_) kx)
    exact h.tr hs ha _ _ σ' ow' s' _ Ea _ E r z (ok.stp st g) (kv.stp st) (kx.stp st g)
theorem Both.attr (X : CxOk C T P) {e : WE} {c f : Nat} {v : Expr} {n : Str} {pos : Pos} (he : Both C d sc nms q e v) (hb : fg v = true) (hn : T.atN[f]? = some n) (hm : ∀ ci, P.cls[c]? = some ci → ci.meths.lookup f = Option.none) :
    Both C d sc nms q (vO1 (bq c f) e) (.Attribute v n pos) :=
  .of rfl fun A env envs ρ hs ha σ ow s Qa Ea Q E w ok kv kx => by
    refine Attribute_any_ (he.ev A env envs ρ hs ha σ ow s _ Ea _ E w ok (fun v av σ' ow' s' z st g r => xb X hn hm g (kv.stp st) r z) kx) ?_
    rw [arm_eval_Attribute, ln hb]
theorem HOk.call {A : Around} {f : Nat} {Z : Nat → Prop} {h : Heap} (x : HOk A q Z h) (hq : (!q || qOf P f) = true) : HOk A (qOf P f) Z h := by
  rcases x with x | ⟨e, r⟩
  · exact .inl x
  · subst e
    have : qOf P f = true := hq
    rw [this]
    exact .inr ⟨rfl, r⟩
theorem HOk.none {A : Around} {Z : Nat → Prop} {h : Heap} (x : HOk A false Z h) : A.handled = Option.none := x.elim id fun y => absurd y.1 Bool.false_ne_true
theorem BothL.callF (X : CxOk C T P) (hF : bT C P d F) {A : Around} {env : Env} {envs : Vo} {ρ : Loc} {f : Nat} {es : WL} {xs : List Expr} {pos : Pos} (h : BothL C d sc nms q es xs) (hs : env.scope = sc) (ha : AOk A envs d) (hlt : f < T.fnN.length) (hq : (!q || qOf P f) = true)
    {σ : St} {ow : Nat → Option Nat} {s : Shared} {Qa : PQ} {Ea : PE} {Q : Value → Shared → Prop} {E : Value → Shared → Prop} {a0 : List AV} {v0 : List Value} (r0 : VRs C (Zs σ ow (zss envs)) s.heap a0 v0)
    (w : es ρ σ (fun vs σ' => F f (a0 ++ vs) σ' Qa Ea) Ea) (ok : Ok C A q env envs nms ρ σ ow s) (kv : KV C envs σ ow s (RV C) Qa Q) (kx : KX C envs σ ow s Ea E) :
    wpAny (model C.prog C.w) A (callWith pos (.ref (C.fnA f)) v0 (backTo pos (starEach xs env)) []) Q E s := by
  obtain ⟨oI, fd, f1, f2, f3⟩ := X.fnF f hlt
  refine callWith_function (o := oI) (fd := fd) (cI h.stars (h.snd hs ha σ ow s _ Ea _ E w ok (fun vs avs σ' ow' s' z st g r => ?_) kx))
  exact ⟨⟨g.stays _ _ f1, f3⟩, sr hF z g ha.toF ((ok.hnd.stp st).call hq) (VRs.append r.1 (st.vrs r0)) (kv.stp st) (kx.stp st g)⟩
theorem Both.call (X : CxOk C T P) (hF : bT C P d F) {f : Nat} {n : Str} {es : WL} {xs : List Expr} {np pos : Pos} (h : BothL C d sc nms q es xs) (h1 : T.fnN[f]? = some n) (h2 : n ≠ Str.empty) (h3 : gl sc n = true) (hq : (!q || qOf P f) = true) :
    Both C d sc nms q (aZ F f es) (.Call (.Name n np) xs [] pos) :=
  .of rfl fun A env envs ρ hs ha σ ow s Qa Ea Q E w ok kv kx => by
    obtain ⟨g1, g2, g3⟩ := ef h3
    refine wpAny_Call_ofName (gname X (by unfold Env.kindOf; rw [hs]; exact g1) g2 ok (X.fnN f n h1 h2) ?_)
    exact h.callF X hF hs ha (List.getElem?_eq_some_iff.mp h1).1 hq (a0 := []) (v0 := []) .nil w ok kv kx
theorem rB {M : Model} {A : Around} {E : Value → Shared → Prop} {s : Shared} {pos : Pos} {cc : Addr} {args : List (Bool × Sem Value)} {Q : Value → Shared → Prop} (hplain : args.any (·.1) = false)
    (h : wpAny M A (evalArgs (.ref cc) true args []) (fun x s₁ => (∃ nm q N bs bm hdct sn sub ab col dd k0 k1 k2 k3 k5 newId, s₁.heap.get? cc = some (excClassObj nm q cc N bs bm hdct sn sub ab col dd k0 k1 k2 k3 k5 newId)) ∧ wpAny M A (call (.ref cc) x.pos x.kw) Q E s₁) E s) :
    wpAny M A (callWith pos (.ref cc) [] args []) Q E s := by
  unfold callWith
  refine wpAny_bind (wpAny_holding (wpAny_mono h (fun a s₁ h₁ => wpAny_bind (wpAny_standAt ?_)) fun _ _ x => x))
  obtain ⟨⟨nm, q, N, bs, bm, hdct, sn, sub, ab, col, dd, k0, k1, k2, k3, k5, newId, hC⟩, h₁⟩ := h₁
  obtain ⟨hh, gg, dd', tt, oo⟩ := s₁
  simp only [hplain, List.any_nil, Bool.or_false]
  refine wpAny_bind (wpAny_keeperOf_exc hC ?_)
  exact wpAny_bind (wpAny_mono h₁ (fun r s₂ hr => wpAny_bind (wpAny_holding (wpAny_point (wpAny_pure hr)))) fun _ _ x => x)
theorem Both.new (X : CxOk C T P) (hF : bT C P d F) {c f : Nat} {ci : ClsI} {n : Str} {es : WL} {xs : List Expr} {np pos : Pos} (h : BothL C d sc nms false es xs) (h1 : T.clsN[c]? = some n) (h3 : gl sc n = true) (hc : P.cls[c]? = some ci) (hi : ci.init = some f) (hlt : f < T.fnN.length) :
    Both C d sc nms false (tG F c f es) (.Call (.Name n np) xs [] pos) :=
  .of rfl fun A env envs ρ hs ha σ ow s Qa Ea Q E w ok kv kx => by
    obtain ⟨g1, g2, g3⟩ := ef h3
    refine wpAny_Call_ofName (gname X (by unfold Env.kindOf; rw [hs]; exact g1) g2 ok (X.clsN c n h1) ?_)
    refine rB (cW h.stars) (cI h.stars (h.snd hs ha σ ow s _ Ea _ E w ok (fun vs avs σ' ow' s' z st g r => ?_) kx))
    have hci := X.ics c ci hc (by rw [hi]; exact Option.some_ne_none _)
    obtain ⟨ci', q1, q2⟩ := X.cls c hci
    obtain ⟨nm, q, N, bs, sn, sub, col, dd, k0, k1, k2, k3, k5, mN, c1, _⟩ := q2.ex
    exact ⟨⟨_, _, _, _, _, _, _, _, _, _, _, _, _, _, _, _, _, g.stays _ _ c1⟩, Ai X hF hc hi hlt z g ha (.inl (ok.hnd.none)) r.1 (kv.stp st) (kx.stp st g)⟩
theorem pb {fs : List (Nat × AV)} {m : Nat} (h : aW fs m = Option.none) : m ∉ fs.map (·.1) := by
  intro hm
  obtain ⟨p, hp, e⟩ := List.mem_map.mp hm
  unfold aW at h
  rw [Option.map_eq_none_iff, List.find?_eq_none] at h
  exact h p hp (decide_eq_true e)
theorem Both.meth (X : CxOk C T P) (hF : bT C P d F) {e : WE} {c m f : Nat} {ci : ClsI} {n : Str} {o : Expr} {es : WL} {xs : List Expr} {apos pos : Pos} (he : Both C d sc nms false e o) (h : BothL C d sc nms false es xs) (hb : fg o = true) (hn : T.atN[m]? = some n)
    (hline : (apos.endLine == pos.line) = true) (hlen : xs.length < 20) (hc : P.cls[c]? = some ci) (hf : ci.meths.lookup m = some f) (hlt : f < T.fnN.length) :
    Both C d sc nms false (fQ F c m f e es) (.Call (.Attribute o n apos) xs [] pos) :=
  .of rfl fun A env envs ρ hs ha σ ow s Qa Ea Q E w ok kv kx => by
    rw [arm_eval_Call, ln hb]
    refine wpAny_bind (he.ev A env envs ρ hs ha σ ow s _ Ea _ E w ok (fun v av σ' ow' s' z st g r => ?_) kx)
    refine wpAny_bind (wpAny_standAt ?_)
    obtain ⟨a, fs, rfl, hσ, hnone, z⟩ := z
    cases r
    obtain ⟨dx, mA, I, _, fm, _, hcs⟩ := ORep.inst g hσ
    obtain ⟨ci', q1, q2⟩ := X.cls c hcs
    rw [hc] at q1
    cases q1
    obtain ⟨nm, q, N, bs, sn, sub, col, dd, k0, k1, k2, k3, k5, mN, c1, c2, c3, c4, c5, c6, c7, c8⟩ := q2.ex
    obtain ⟨en, lt⟩ := X.nm_lt hn
    obtain ⟨oI, fd, f1, f2, f3⟩ := X.fnF f hlt
    have hform : methodCallForm (xs.length + ([] : List Keyword).length) (backTo pos (starEach xs env)) (backToKw pos (keywordEach [] env)) = true := by
      unfold methodCallForm
      rw [lz h.stars]
      have e1 : backToKw pos (keywordEach [] env) = [] := rfl
      rw [e1]
      simp
      omega
    have hpos : methodCallPos true o env apos pos = pure pos := by unfold methodCallPos; simp [hline]
    have nsh : mA n = Option.none := by
      cases z' : mA n with
      | none => rfl
      | some u =>
        have hmem := fm.2 n (by rw [z']; exact Option.some_ne_none _)
        obtain ⟨p, hp, ep⟩ := List.mem_map.mp hmem
        have hf' : p.1 < T.atN.length := by
          apply Decidable.byContradiction
          intro hn'
          rw [X.nm, List.getD_eq_getElem?_getD, List.getElem?_eq_none (by omega)] at ep
          exact X.ne (by rw [show Str.empty = n from ep]; exact X.mem hn)
        have : p.1 = m := by
          rw [← en, X.nm, X.nm, List.getD_eq_getElem?_getD, List.getD_eq_getElem?_getD, List.getElem?_eq_getElem hf', List.getElem?_eq_getElem lt] at ep
          exact (List.getElem_inj X.inj).mp ep
        exact absurd (List.mem_map.mpr ⟨p, hp, this⟩) (pb hnone)
    unfold methodCall
    rw [hform]
    obtain ⟨hh, gg, dd', tt, oo⟩ := s'
    refine wpAny_bind (wpAny_holding (method_of (g.stays _ _ c1) (c2.keeps g.stays) c3 c4 (by rw [← en]; exact c7 m f hf) (g.stays _ _ f1) f2 (X.objN n (X.mem hn)) I nsh ?_))
    refine wpAny_bind (wpAny_of_eq hpos ?_)
    exact h.callF X hF hs ha hlt rfl (a0 := [.obj _]) (v0 := [.ref _]) (.cons (.obj _) .nil) z (ok.stp st g) (kv.stp st) (kx.stp st g)
structure BiOk (C : Cx) (q : Bool) (n : Str) (f : ON) : Prop where
  ex : ∃ fv, bootBuiltins n = some fv ∧ ((∃ id, fv = .builtin id) ∨ ∃ T, fv = .type T) ∧ iM C q fv f
theorem Both.bi (X : CxOk C T P) {q' : Bool} {f : ON} {n : Str} {es : WL} {xs : List Expr} {np pos : Pos} (hb : BiOk C q' n f) (h : BothL C d sc nms q es xs) (hn : n ∈ T.bltN) (h3 : gl sc n = true) (hq : q' = false → q = false) :
    Both C d sc nms q (vON f es) (.Call (.Name n np) xs [] pos) :=
  .of rfl fun A env envs ρ hs ha σ ow s Qa Ea Q E w ok kv kx => by
    obtain ⟨fv, hboot, hk, hS⟩ := hb.ex
    obtain ⟨g1, g2, g3⟩ := ef h3
    refine wpAny_Call_ofName (bname X (by unfold Env.kindOf; rw [hs]; exact g1) g2 ok hn g3 hboot ?_)
    have fin : wpAny (model C.prog C.w) A (evalArgs fv true (backTo pos (starEach xs env)) []) (fun x s₁ => wpAny (model C.prog C.w) A (PySem.call fv ([] ++ x.pos) x.kw) Q E s₁) E s := by
      refine cI h.stars (h.snd hs ha σ ow s _ Ea _ E w ok (fun vs avs σ' ow' s' z st g r => ?_) kx)
      refine hS A envs σ' ow' s' _ _ _ _ _ (fun e => ?_) g (kv.stp st) r.1 z
      have := hq e
      subst this
      exact ok.hnd.none
    rcases hk with ⟨id, rfl⟩ | ⟨T, rfl⟩
    · exact callWith_builtin (cW h.stars) fin
    · exact PyProof.Rows.callWith_type (cW h.stars) fin
theorem Both.isiG (X : CxOk C T P) {o : O1} {e : WE} {y : Expr} {n z : Str} {np zp pos : Pos} {tv : Value} (he : Both C d sc nms q e y) (hst : df y = true) (hn : n = ("isinstance" : Str)) (hb : n ∈ T.bltN) (h3 : gl sc n = true)
    (hz : ∀ A env envs ρ σ ow s (Q : Value → Shared → Prop) E, env.scope = sc → Ok C A q env envs nms ρ σ ow s → Q tv s → wpAny (model C.prog C.w) A (eval (.Name z zp) env) Q E s)
    (hi : ∀ (A : Around) envs σ ow s (Qa : PQ) (Q : Value → Shared → Prop) E v u, Good C envs σ ow s → KV C envs σ ow s (RV C) Qa Q → VR C (Zs σ ow (zss envs)) s.heap v u → o v σ Qa → wpAny (model C.prog C.w) A (PySem.call (.builtin "isinstance") [u, tv]) Q E s) :
    Both C d sc nms q (vO1 o e) (.Call (.Name n np) [y, .Name z zp] [] pos) :=
  .of rfl fun A env envs ρ hs ha σ ow s Qa Ea Q E w ok kv kx => by
    obtain ⟨g1, g2, g3⟩ := ef h3
    refine wpAny_Call_ofName (bname X (by unfold Env.kindOf; rw [hs]; exact g1) g2 ok hb g3 (by rw [hn]; exact boot_isinstance) ?_)
    have hst' : [y, Expr.Name z zp].all df = true := by rw [List.all_cons, hst]; rfl
    refine callWith_builtin (cW hst') (cI hst' ?_)
    rw [cK hst]
    refine spliced_cons (he.ev A env envs ρ hs ha σ ow s _ Ea _ E w ok (fun v av σ' ow' s' w' st g r => ?_) kx)
    rw [cK (show df (Expr.Name z zp) = true from rfl)]
    refine spliced_cons (hz A env envs ρ σ' ow' s' _ _ hs (ok.stp st g) (spliced_nil ?_))
    exact hi A envs σ' ow' s' _ _ _ _ _ g (kv.stp st) r w'
theorem Both.isi (X : CxOk C T P) {t : Ty} {e : WE} {y : Expr} {n z : Str} {np zp pos : Pos} (he : Both C d sc nms q e y) (hst : df y = true) (hn : n = ("isinstance" : Str)) (hb : n ∈ T.bltN) (h3 : gl sc n = true) (hz : bootBuiltins z = some (tyV t)) (hb' : z ∈ T.bltN) (h3' : gl sc z = true) :
    Both C d sc nms q (vO1 (ng t) e) (.Call (.Name n np) [y, .Name z zp] [] pos) :=
  .isiG X he hst hn hb h3 (fun A env envs ρ σ ow s Q E hs ok hq => by
    obtain ⟨g1, g2, g3⟩ := ef h3'
    exact bname X (by unfold Env.kindOf; rw [hs]; exact g1) g2 ok hb' g3 hz hq) fun A envs σ ow s Qa Q E v u g k r w => vG r w fun tk z => k.val g tk z (.bool _)
theorem Both.isiX (X : CxOk C T P) {dd : Nat} {e : WE} {y : Expr} {n z : Str} {np zp pos : Pos} (he : Both C d sc nms q e y) (hst : df y = true) (hn : n = ("isinstance" : Str)) (hb : n ∈ T.bltN) (h3 : gl sc n = true) (hz : T.clsN[dd]? = some z) (h3' : gl sc z = true) {cj : ClsI} (hc : P.cls[dd]? = some cj) (hi : cj.init = Option.none) :
    Both C d sc nms q (vO1 (sQ P.cls dd) e) (.Call (.Name n np) [y, .Name z zp] [] pos) :=
  .isiG X he hst hn hb h3 (fun A env envs ρ σ ow s Q E hs ok hq => by
    obtain ⟨g1, g2, g3⟩ := ef h3'
    exact gname X (by unfold Env.kindOf; rw [hs]; exact g1) g2 ok (X.clsN _ z hz) hq) fun A envs σ ow s Qa Q E v u g k r w => by
    obtain ⟨c, ci, rfl, hci, w⟩ := w
    cases r with | exn at_ cls dt dn cx off =>
    exact X.isiC _ cx _ (X.xcs dd cj hc hi) _ hci A Q E s _ _ _ g.stays at_ cls dt dn fun tk => k.val g tk w (.bool _)
end
end Ap
end
section
namespace Ap
open PySem PySem.Calls PyProof.Rows
structure BothS (C : Cx) (d : Nat) (sc : Scope) (nms : List Str) (q : Bool) (w : WS) (x : Stmt) : Prop where
  snd : ∀ A env V outer, FEnv env nms V outer → env.scope = sc → AOk A V d → Cj C A q env V nms (exec x env) w
structure BothB (C : Cx) (d : Nat) (sc : Scope) (nms : List Str) (q : Bool) (w : WS) (x : List Stmt) : Prop where
  snd : ∀ A env V outer, FEnv env nms V outer → env.scope = sc → AOk A V d → Cj C A q env V nms (execs x env) w
noncomputable def fn : Expr → Bool
  | .ListComp .. => false
  | .SetComp .. => false
  | .DictComp .. => false
  | _ => true
theorem lJ {e : Expr} {t : Option Expr} {line : Nat} {env : Env} (h : fn e = true) : swapsWith e t line env = pure false := by
  cases e <;> first | rfl | exact Bool.noConfusion h
section
variable {C : Cx} {T : Tabs} {P : Prg} {F : Calls} {d : Nat} {sc : Scope} {nms : List Str} {q : Bool}
theorem BothB.nil : BothB C d sc nms q ay [] where
  snd := fun A env V outer hF hs ha ρ σ ow s Qa Ea Q E w k ks kx => wpAny_execs_nil (ks _ _ ρ σ ow s w (SStp.refl _ _ _ _) k .next)
theorem BothB.cons {i is : WS} {x : Stmt} {xs : List Stmt} (h : BothS C d sc nms q i x) (hr : BothB C d sc nms q is xs) : BothB C d sc nms q (ad i is) (x :: xs) where
  snd := fun A env V outer hF hs ha ρ σ ow s Qa Ea Q E w k ks kx => by
    refine wpAny_execs_cons (h.snd A env V outer hF hs ha ρ σ ow s _ Ea _ E w k (fun fl af ρ' σ' ow' s' z st k' r => ?_) kx)
    cases r with
    | next => exact hr.snd A env V outer hF hs ha ρ' σ' ow' s' _ Ea _ E z k' (ks.stp st) (kx.stp st k'.ok.good)
    | ret r => exact ks _ _ ρ' σ' ow' s' z st k' (.ret r)
theorem BothS.assign {x : Nat} {n : Str} {e : WE} {v : Expr} {np pos : Pos} (he : Both C d sc nms q e v) (hc : fn v = true) (hn : nms[x]? = some n) : BothS C d sc nms q (aw x e) (.Assign [.Name n np] v pos) where
  snd := fun A env V outer hF hs ha ρ σ ow s Qa Ea Q E w k ks kx => by
    refine wpAny_Assign_Name (he.ev A env V ρ hs ha σ ow s _ _ _ E w k.ok (fun u av σ' ow' s' z st g r => ?_) (kx.toE hF k)) (lJ hc)
    refine dQ hF hn (k.stp hF st g) r fun s'' st' k' => ?_
    exact ks _ _ _ σ' ow' s'' z (st.toS.trans st') k' .next
theorem BothS.setAttr (X : CxOk C T P) {o e : WE} {c f : Nat} {ov v : Expr} {n : Str} {np pos : Pos} (ho : Both C d sc nms q o ov) (he : Both C d sc nms q e v) (hc : fn v = true) (hn : T.atN[f]? = some n) (hm : P.cls.all (fun ci => (ci.meths.lookup f).isNone) = true) :
    BothS C d sc nms q (bB o c f e) (.Assign [.Attribute ov n np] v pos) where
  snd := fun A env V outer hF hs ha ρ σ ow s Qa Ea Q E w k ks kx => by
    refine plainObj_wpAny_Assign_Attribute (he.ev A env V ρ hs ha σ ow s _ _ _ E w k.ok (fun u av σ' ow' s' z st g r => ?_) (kx.toE hF k)) (lJ hc)
    have k' := k.stp hF st g
    refine ho.ev A env V ρ hs ha σ' ow' s' _ _ _ E z k'.ok (fun u2 av2 σ₂ ow₂ s₂ z₂ st₂ g₂ r₂ => ?_) ((kx.stp st.toS g).toE hF k')
    obtain ⟨a, fs, rfl, hσ, hl, z₂⟩ := z₂
    cases r₂
    refine yB X hn hm g₂ hσ hl (st₂.vr r) fun s₃ st₃ g₃ => ?_
    exact ks _ _ ρ _ ow₂ s₃ z₂ ((st.trans st₂).trans st₃).toS ((k'.stp hF st₂ g₂).stp hF st₃ g₃) .next
theorem BothS.ret {e : WE} {v : Expr} {pos : Pos} (he : Both C d sc nms q e v) : BothS C d sc nms q (bP e) (.Return (some v) pos) where
  snd := fun A env V outer hF hs ha ρ σ ow s Qa Ea Q E w k ks kx => by
    refine wpAny_Return_some (he.ev A env V ρ hs ha σ ow s _ _ _ E w k.ok (fun u av σ' ow' s' z st g r => ?_) (kx.toE hF k))
    exact ks _ _ ρ σ' ow' s' z st.toS (k.stp hF st g) (.ret r)
theorem BothS.ite {c : WE} {a b : WS} {y : Expr} {xs ys : List Stmt} {pos : Pos} (hc : Both C d sc nms q c y) (h1 : BothB C d sc nms q a xs) (h2 : BothB C d sc nms q b ys) : BothS C d sc nms q (bY c a b) (.If y xs ys pos) where
  snd := fun A env V outer hF hs ha ρ σ ow s Qa Ea Q E w k ks kx => by
    refine wpAny_If (hc.tr A env V ρ hs ha σ ow s _ _ _ E w k.ok (fun v t σ' ow' s' z st g r => ?_) (kx.toE hF k))
    have r' : t = v := r
    subst r'
    have k' := k.stp hF st g
    cases t with
    | true => exact h1.snd A env V outer hF hs ha ρ σ' ow' s' _ Ea _ E z k' (ks.stp st.toS) (kx.stp st.toS g)
    | false => exact h2.snd A env V outer hF hs ha ρ σ' ow' s' _ Ea _ E z k' (ks.stp st.toS) (kx.stp st.toS g)
theorem yL {M : Program} {w : World} {A : Around} {E : Value → Shared → Prop} {s : Shared} {env : Env} {e : Expr} {pos : Pos} {Q : Flow → Shared → Prop} (hi : interactive env = false) (hc : fn e = true) (h : wpAny (model M w) A (eval e env) (fun _ s' => Q .next s') E s) :
    wpAny (model M w) A (exec (.Expr e pos) env) Q E s := by
  rw [arm_exec_Expr]
  refine wpAny_bind (wpAny_standAt ?_)
  rw [hi]
  rw [if_neg (by decide), lJ hc]
  refine wpAny_bind (wpAny_pure ?_)
  rw [if_neg (by decide)]
  refine wpAny_bind (wpAny_mono h (fun v s' hq => ?_) fun _ _ x => x)
  unfold dropValue
  split
  · exact wpAny_pure hq
  · exact wpAny_bind (wpAny_standAt (wpAny_bind (wpAny_runValue (codeAny_builtin entry_let_go (show wpAny _ _ (ret .none) _ _ _ from wpAny_pure (wpAny_pure hq))))))
  · exact wpAny_pure hq
theorem BothS.expr {e : WE} {v : Expr} {pos : Pos} (he : Both C d sc nms q e v) (hc : fn v = true) : BothS C d sc nms q (cM e) (.Expr v pos) where
  snd := fun A env V outer hF hs ha ρ σ ow s Qa Ea Q E w k ks kx => by
    refine yL (by unfold interactive; rw [hF.kind]; rfl) hc (he.ev A env V ρ hs ha σ ow s _ _ _ E w k.ok (fun u av σ' ow' s' z st g r => ?_) (kx.toE hF k))
    exact ks _ _ ρ σ' ow' s' z st.toS (k.stp hF st g) .next
theorem BothS.rais (X : CxOk C T P) {c : Nat} {n : Str} {m : Str} {kk : Nat} {np cp mp pos : Pos} (hn : T.clsN[c]? = some n) (hg : gl sc n = true) (hx : c ∈ C.xcs) : BothS C d sc nms false (dW c) (.Raise (some (.Call (.Name n np) [.Constant (.str m) kk mp] [] cp)) Option.none pos) where
  snd := fun A env V outer hF hs ha ρ σ ow s Qa Ea Q E w k ks kx => by
    obtain ⟨nm, q, N, bs, bm, bmB, hdct, sn, sub, ab, col, dd, k0, k1, k2, k3, k5, B, newId, initId, mN, c1, c2, c3, c4, c5, c6⟩ := (X.exc c hx).ex
    obtain ⟨g1, g2, g3⟩ := ef hg
    refine wpAny_Raise_call_subT (nm := nm) (q := q) (N := N) (bs := bs) (hdct := hdct) (sn := sn) (sub := sub) (ab := ab) (col := col) (dd := dd) (k0 := k0) (k1 := k1) (k2 := k2) (k3 := k3) (k5 := k5) c5 c6 k.ok.hnd.none rfl c3 (gname X (by unfold Env.kindOf; rw [hs]; exact g1) g2 k.ok (X.clsN c n hn) ⟨rfl, ?_⟩)
    refine cI rfl ?_
    rw [cK rfl]
    refine spliced_cons (wpAny_Constant_str (k := kk) (pos := mp) (spliced_nil ?_))
    have G := k.ok.good.tk (s.toks + 1)
    refine ⟨rfl, by show 1 ≤ sizeLine; decide, G.stays _ _ c1, c2.keeps G.stays, ?_, fun h' e hm => ?_⟩
    · exact c4.keeps G.stays
    · obtain ⟨t, ht, hn1, hn2⟩ := hm.there
      have gr : ∀ b o, s.heap.get? b = some o → h'.get? b = some o := hm.keeps
      have st : Stp (frs V) (Own σ ow) (Own σ ow) s { s with heap := h', toks := s.toks + 1 } := Stp.ext gr _
      have g' : Good C V σ ow { s with heap := h', toks := s.toks + 1 } := k.ok.good.ext gr _
      have nz : ¬ Zs σ ow (zss V) e := by
        rintro (z | z)
        · obtain ⟨o, y⟩ := k.ok.good.live z
          have hnew : s.heap.get? e = Option.none := hm.new
          rw [hnew] at y; cases y
        · obtain ⟨_, o, y⟩ := k.ok.good.mem _ z
          have hnew : s.heap.get? e = Option.none := hm.new
          rw [hnew] at y; cases y
      exact kx e c ρ σ ow _ w st.toS (k.stp hF st g') ⟨⟨hm.new, nz, hx⟩, Option.none, ⟨_, _, _, ht, rfl, rfl, rfl, rfl, rfl, rfl⟩, fun T fl z => by cases z⟩
noncomputable def mt : Expr → Bool
  | .Set .. => false
  | _ => true
theorem kI {e : Expr} {env : Env} {x : Value} (h : mt e = true) : foldedSetIterable e env x = pure x := by
  cases e <;> first | rfl | exact Bool.noConfusion h
theorem qs {prog : Program} {w : World} {A : Around} {E : Value → Shared → Prop} {s : Shared} {l : Addr} {vs : List Value} {Q : Value → Shared → Prop} (li : IsL s.heap l vs)
    (h : ∀ h', (∀ b o, s.heap.get? b = some o → h'.get? b = some o) → h'.IsListIter s.heap.objs.size l 0 → Q (.ref s.heap.objs.size) { s with heap := h' }) : wpAny (model prog w) A (pyIter (.ref l)) Q E s :=
  wpAny_pyIter_list li.isList (h _ (fun _ _ e => Heap.get?_push_of_some _ e) ⟨_, Heap.get?_push_size _ rfl, rfl, rfl⟩)
theorem lZ {a : AV} {v : Value} {xs : List AV} {V : Vo} {σ : St} {ow : Nat → Option Nat} {s : Shared} (g : Good C V σ ow s) (r : VR C (Zs σ ow (zss V)) s.heap a v) (e : dm σ a = some xs) :
    ∃ l vs, v = .ref l ∧ IsL s.heap l vs ∧ VRs C (Zs σ ow (zss V)) s.heap xs vs ∧ (a = .ilist xs ∧ (¬ Zs σ ow (zss V) l) ∨ a = .obj l ∧ σ l = some (.list xs)) := by
  cases r with
  | ilist at_ off r => cases e; exact ⟨_, _, rfl, at_, r, .inl ⟨rfl, off⟩⟩
  | obj a =>
    obtain ⟨vs, li, rr⟩ := g.store _ _ (cQ e)
    exact ⟨_, vs, rfl, li, rr, .inr ⟨rfl, cQ e⟩⟩
  | _ => cases e
theorem Heap.fresh (h : Heap) : h.get? h.objs.size = Option.none := by
  cases e : h.get? h.objs.size with
  | none => rfl
  | some o => exact absurd (Heap.lt_size e) (Nat.lt_irrefl _)
theorem BothS.forL {e : WE} {v : Expr} {x : Nat} {n : Str} {body : WS} {xs : List Stmt} {np pos : Pos} (he : Both C d sc nms q e v) (hB : BothB C d sc nms q body xs) (hv : mt v = true) (hn : nms[x]? = some n) :
    BothS C d sc nms q (yg x e body) (.For (.Name n np) v xs [] pos) where
  snd := fun A env V outer hF hs ha ρ σ ow s Qa Ea Q E w k ks kx => by
    refine wpAny_For (he.ev A env V ρ hs ha σ ow s _ _ _ E w k.ok (fun u av σ' ow' s' z st g r => ?_) (kx.toE hF k)) fun x => kI hv
    have k' := k.stp hF st g
    have hA : A.frames = some V.l := ha.frames
    obtain ⟨items, hseq, z⟩ := z
    obtain ⟨l, vs, rfl, li, rr, hc⟩ := lZ g r hseq
    obtain ⟨hh, gg, dd, tt, oo⟩ := s'
    refine qs li fun h' gr it => ?_
    have nI : hh.get? hh.objs.size = Option.none := Heap.fresh _
    have fr : ∀ b ∈ [hh.objs.size], hh.get? b = Option.none ∧ ∃ o, h'.get? b = some o := fun b m => by
      rw [List.mem_singleton.mp m]
      obtain ⟨o, e, _⟩ := it
      exact ⟨nI, o, e⟩
    have ko := k'.open_ (h' := h') (t := tt) (wr := [hh.objs.size]) gr fr
    have st' : Stp (frs V) (Own σ' ow') (Own σ' ow') ⟨hh, gg, dd, tt, oo⟩ { heap := h', gens := gg, drawn := dd, toks := tt, os := oo } := Stp.ext gr tt
    have ss : SStp (eu env) V.fs (Own σ ow) (Own σ' ow') s { heap := h', gens := gg, drawn := dd, toks := tt, os := oo } := (st.trans st').toS
    have fr0 : ∀ b ∈ [hh.objs.size], s.heap.get? b = Option.none := fun b m => st.back rfl g b (fr b m).1
    have nz : ∀ b ∈ [hh.objs.size], b ∉ V.its := fun b m n => by
      obtain ⟨_, o, y⟩ := k.ok.good.mem b (List.mem_append_right _ n)
      rw [fr0 b m] at y; cases y
    rcases hc with ⟨rfl, off⟩ | ⟨rfl, hst⟩
    · have zg : Zg (Zs σ' ow' (zss V)) (Zs σ' ow' (zss (V.plus [hh.objs.size]))) hh := fun b y => by
        rcases y with y | y
        · exact .inl (.inl y)
        · rcases Vo.plus_mem y with y | y
          · exact .inl (.inr y)
          · exact .inr (fr b y).1
      obtain ⟨y1, m, y2⟩ := li
      exact pc hF hA (It.ilist (ax := l) (vs := vs)) (hB.snd A env (V.plus [hh.objs.size]) outer hF.plus hs ha.plus) (.one hF.plus hn) k.ok.good.stays fr0 nz ks kx ⟨it, ⟨y1, m, gr _ _ y2⟩, rr.kp (fun b o e _ => gr b o e) zg, zg.not y2 off⟩ ko ss (fun v ρ σ R h => ⟨_, rfl, h⟩) z
    · exact pc hF hA It.own (hB.snd A env (V.plus [hh.objs.size]) outer hF.plus hs ha.plus) (.one hF.plus hn) k.ok.good.stays fr0 nz ks kx it ko ss (fun v ρ σ R h => ⟨_, rfl, h⟩) z
end
end Ap
end
section
namespace Ap
open PySem PySem.Calls PyProof.Rows
section
variable {C : Cx} {T : Tabs} {P : Prg} {F : Calls} {d : Nat} {sc : Scope} {nms : List Str} {q : Bool}
inductive BothH (C : Cx) (T : Tabs) (P : Prg) (d : Nat) (sc : Scope) (nms : List Str) : WH → List ExceptHandler → Prop
  | nil : BothH C T P d sc nms yr []
  | cons {dd x : Nat} {b : WS} {n y : Str} {np pos : Pos} {b₀ : Stmt} {bs : List Stmt} {r : WH} {rest : List ExceptHandler} {cj : ClsI} : T.clsN[dd]? = some n → gl sc n = true → P.cls[dd]? = some cj → cj.init = Option.none → nms[x]? = some y → sc.names.lookup y = some .local →
      BothB C d sc nms true b (b₀ :: bs) → BothH C T P d sc nms r rest → BothH C T P d sc nms (xE P.cls dd x b r) (.ExceptHandler (some (.Name n np)) (some y) (b₀ :: bs) pos :: rest)
variable {A : Around} {env : Env} {V : Vo} {outer : List Env} {ρ : Loc} {σ : St} {ow : Nat → Option Nat} {s : Shared}
theorem SOk.mark {e : Addr} {c : Nat} {t : Option (Addr × Value)} (k : SOk C A q env V nms ρ σ ow s) (x : ExO s.heap e (.ref (C.clsA c)) t) (n : ¬ Zs σ ow (zss V) e) : SOk C (A.mark (some (.ref e))) true env V nms ρ σ ow s := by
  obtain ⟨oe, vs, a0, x1, x2, x3, x4, x5, x6, x7⟩ := x
  exact ⟨⟨k.ok.good, k.ok.loc, .inr ⟨rfl, e, oe, vs, rfl, x1, x4, x6, n⟩, k.ok.live⟩, k.ns, k.cells⟩
theorem SOk.unmark {e : Addr} {q' : Bool} (hh : A.handled = Option.none) (k : SOk C (A.mark (some (.ref e))) q' env V nms ρ σ ow s) : SOk C A false env V nms ρ σ ow s :=
  ⟨⟨k.ok.good, k.ok.loc, .inl hh, k.ok.live⟩, k.ns, k.cells⟩
theorem wL (hF : FEnv env nms V outer) {n : Str} {pos : Pos} {Q : Unit → Shared → Prop} {E : Value → Shared → Prop} (hl : env.kindOf n = some .local) (k : SOk C A q env V nms ρ σ ow s)
    (K : ∀ s', SStp (eu env) V.fs (Own σ ow) (Own σ ow) s s' → SOk C A q env V nms [] σ ow s' → Q () s') : wpAny (model C.prog C.w) A (do bindName env n .none; unbindBehindTheSuite env n pos) Q E s := by
  obtain ⟨m, hn⟩ := k.ns
  refine wpAny_nameGoes hl hn (by rw [hF.kind]; rfl) fun h' m' hn' hs => ?_
  have hk : ∀ b ob, b ≠ env.locals → s.heap.get? b = some ob → h'.get? b = some ob := fun b ob nb e => (hs.2 b nb).trans e
  have hlv : ∃ o, h'.get? env.locals = some o ∧ ∀ vs, o.data ≠ .fields vs := by
    obtain ⟨o, es, ep, ho, hd, _⟩ := hn'
    exact ⟨o, ho, fun vs q => by rw [hd] at q; cases q⟩
  have st : SStp (eu env) V.fs (Own σ ow) (Own σ ow) s { s with heap := h', toks := s.toks + 1 } := SStp.touch _ List.mem_cons_self hF.inF hk (let ⟨o, e, _⟩ := hlv; ⟨o, e⟩)
  refine K _ st ⟨⟨k.ok.good.touch hF.inF hk hlv _, ⟨k.ok.loc.kind, k.ok.loc.glob, k.ok.loc.blt, k.ok.loc.offL, fun j w e => by simp [fJ] at e⟩, k.ok.hnd.sstp st, let ⟨o, e, _⟩ := hlv; ⟨o, e⟩⟩, ⟨_, hn'⟩, fun y c hc => ?_⟩
  obtain ⟨v', o, eo, d⟩ := k.cells y c hc
  exact ⟨v', o, hk _ _ (hF.cel y c hc).2 eo, d⟩
theorem ot (X : CxOk C T P) (hF : FEnv env nms V outer) (hs : env.scope = sc) (ha : AOk A V d) (hh : A.handled = Option.none) {σ₀ : St} {ow₀ : Nat → Option Nat} {s₀ : Shared} {Qa : QS} {Ea : ES} {Q : Flow → Shared → Prop} {E : Value → Shared → Prop} {e Tb : Addr} {c : Nat}
    (hb : C.base.StaysIn s₀.heap) (ks : KS C A false env V nms σ₀ ow₀ s₀ Qa Q) (kx : KXS C A false env V nms σ₀ ow₀ s₀ Ea E) (hxc : c ∈ C.xcs) {hs' : WH} {xs : List ExceptHandler} (hB : BothH C T P d sc nms hs' xs) :
    ∀ ρ σ ow s, hs' c ρ σ Qa Ea → SOk C A false env V nms ρ σ ow s → SStp (eu env) V.fs (Own σ₀ ow₀) (Own σ ow) s₀ s →
      ExO s.heap e (.ref (C.clsA c)) (some (Tb, .none)) → s₀.heap.get? e = Option.none ∧ ¬ Zs σ ow (zss V) e → s₀.heap.get? Tb = Option.none → ¬ Zs σ ow (zss V) Tb →
      wpAny (model C.prog C.w) A (handleBy (.ref e) env xs) Q E s := by
  induction hB with
  | nil =>
    intro ρ σ ow s w k st x n nT nZ
    refine wpAny_handleBy_nil ?_
    unfold PySem.passOn
    obtain ⟨oe, vs, a0, x1, x2, x3, x4, x5, x6, x7, x8⟩ := id x
    refine wpAny_bind (wpAny_field x1 x4 x7 ?_)
    rw [if_neg (by simp)]
    refine wpAny_bind (dF hF hb st k n x nT nZ fun s' st' k' x' => ?_)
    rw [hF.frame] at x'
    exact wpAny_throw (kx e c ρ σ ow s' w st' k' ⟨⟨n.1, n.2, hxc⟩, _, x', fun T' fl' z => by cases z; exact ⟨.inr rfl, nT, nZ⟩⟩)
  | @cons dd x b nm y np pos b₀ bs r rest cj h1 h2 h3 h4 h5 h6 h7 _ ih =>
    intro ρ σ ow s w k st xo n nT nZ
    obtain ⟨ci, hci, w⟩ := w
    obtain ⟨g1, g2, g3⟩ := ef h2
    have km := k.mark xo n.2
    refine wpAny_handleBy_cons (codeAny_handlers_test (gname X (by unfold Env.kindOf; rw [hs]; exact g1) g2 km.ok (X.clsN dd nm h1) ?_)) (by intro q; cases q)
    obtain ⟨oe, vs, a0, x1, x2, x3, x4, x5, x6, x7, x8⟩ := id xo
    refine X.exm c hxc dd (X.xcs dd cj h3 h4) ci hci _ _ _ s e oe vs k.ok.good.stays x1 x3 x4 x2 ?_
    cases hsup : ci.sups.contains dd with
    | false =>
      rw [hsup] at w
      exact ih ρ σ ow s w k st xo n nT nZ
    | true =>
      rw [hsup] at w
      have ham : AOk (A.mark (some (.ref e))) V d := ha.mark _
      have hl : env.kindOf y = some .local := by unfold Env.kindOf; rw [hs]; exact h6
      refine codeAny_handlers_suite_as (dF hF hb st km n xo nT nZ fun s' st' k' x' => ?_)
      obtain ⟨oe', vs', a0', y1, y2, y3, y4, _⟩ := id x'
      refine dQ hF (v := .exn c) h5 k' (.exn y1 y3 y4 y2 hxc n.2) fun s₂ st₂ k₂ => ?_
      refine h7.snd _ env V outer hF hs ham _ σ ow s₂ _ _ _ _ w k₂ (fun fl af ρ₃ σ₃ ow₃ s₃ z st₃ k₃ rf => ?_) (fun e c ρ₃ σ₃ ow₃ s₃ z st₃ k₃ th => False.elim z)
      cases rf with
      | next => exact False.elim z
      | ret r =>
        refine wL hF hl (k₃.unmark hh) fun s₄ st₄ k₄ => ?_
        exact ks _ _ [] σ₃ ow₃ s₄ z (((st'.trans st₂).trans st₃).trans st₄) k₄ (.ret (st₄.vr r))
theorem BothS.tryE (X : CxOk C T P) {body : WS} {hs' : WH} {xs : List Stmt} {h₀ : ExceptHandler} {hrest : List ExceptHandler} {pos : Pos} (hB : BothB C d sc nms false body xs) (hH : BothH C T P d sc nms hs' (h₀ :: hrest)) :
    BothS C d sc nms false (wt body hs') (.Try xs (h₀ :: hrest) [] [] pos) where
  snd := fun A env V outer hF hs ha ρ σ ow s Qa Ea Q E w k ks kx => by
    refine wpAny_Try_except (hB.snd A env V outer hF hs ha ρ σ ow s _ _ _ _ w k (fun fl af ρ₃ σ₃ ow₃ s₃ z st₃ k₃ rf => ?_) (fun e c ρ₃ σ₃ ow₃ s₃ z st₃ k₃ th => ?_))
    · cases rf with
      | next => exact wpAny_execs_nil (ks _ _ ρ₃ σ₃ ow₃ s₃ z st₃ k₃ .next)
      | ret r => exact ks _ _ ρ₃ σ₃ ow₃ s₃ z st₃ k₃ (.ret r)
    · have t0 := th.1
      refine lE hF ha.frames k.ok.good.stays st₃ k₃ th fun s' Tb st' k' x nT nZ => ?_
      refine dF hF k.ok.good.stays st' k' ⟨t0.1, t0.2.1⟩ x nT nZ fun s'' st'' k'' x' => ?_
      exact ot X hF hs ha k.ok.hnd.none k.ok.good.stays ks kx t0.2.2 hH ρ₃ σ₃ ow₃ s'' z k'' st'' x' ⟨t0.1, t0.2.1⟩ nT nZ
end
end Ap
end
section
namespace Ap
open PySem PySem.Calls PyProof.Rows
noncomputable def okF (fi : FnI) (ft : FnT) : Bool :=
  decide ft.nms.Nodup && ft.nms.all (fun x => ft.sc.names.lookup x == some .local || ft.sc.names.lookup x == some .cell) && ft.sc.kind == .function && !ft.sc.isGenerator && !ft.sc.isCoroutine &&
    decide (fi.arity ≤ ft.nms.length) && decide (fi.arity ≤ fi.nloc)
theorem pD (x : Str) : ∀ (names : List (Str × NameKind)) (n : Nat) (acc : List (Str × Addr)), (acc.lookup x).isSome = true → ((cellsFrom n names acc).lookup x).isSome = true := by
  intro names
  induction names with
  | nil => intro n acc h; exact h
  | cons p r ih =>
    obtain ⟨nm, kd⟩ := p
    intro n acc h
    rw [cellsFrom]
    split
    · refine ih _ _ ?_
      rw [List.lookup_cons]
      cases hb : x == nm with
      | true => rfl
      | false => exact h
    · exact ih _ _ h
theorem pL (x : Str) : ∀ (names : List (Str × NameKind)) (n : Nat) (acc : List (Str × Addr)), names.lookup x = some .cell → ((cellsFrom n names acc).lookup x).isSome = true := by
  intro names
  induction names with
  | nil => intro n acc h; cases h
  | cons p r ih =>
    obtain ⟨nm, kd⟩ := p
    intro n acc h
    rw [List.lookup_cons] at h
    rw [cellsFrom]
    cases hb : x == nm with
    | true =>
      rw [hb] at h
      cases h
      rw [if_pos (by decide)]
      exact pD x r _ _ (by rw [List.lookup_cons, hb]; rfl)
    | false =>
      rw [hb] at h
      split
      · exact ih _ _ h
      · exact ih _ _ h
theorem sj {kd : Str → Option NameKind} {x : Str} : ∀ (binds : List (Str × Value)) (m : Str → Option Value), x ∉ binds.map (·.1) → bindL kd binds m x = m x := by
  intro binds
  induction binds with
  | nil => intro m h; rfl
  | cons p r ih =>
    obtain ⟨n, v⟩ := p
    intro m h
    rw [List.map_cons, List.mem_cons, not_or] at h
    rw [bindL, ih _ h.2]
    split
    · exact if_neg h.1
    · rfl
theorem wg {kd : Str → Option NameKind} {x : Str} {v : Value} : ∀ (binds : List (Str × Value)) (m : Str → Option Value), (binds.map (·.1)).Nodup → (x, v) ∈ binds → kd x = some .local → bindL kd binds m x = some v := by
  intro binds
  induction binds with
  | nil => intro m hd h; cases h
  | cons p r ih =>
    obtain ⟨n, u⟩ := p
    intro m hd h hk
    rw [List.map_cons, List.nodup_cons] at hd
    rw [bindL]
    rcases List.mem_cons.mp h with e | h
    · cases e
      rw [sj r _ hd.1, if_pos hk, if_pos rfl]
    · exact ih _ hd.2 h hk
theorem sH {kd : Str → Option NameKind} {x : Str} : ∀ (binds : List (Str × Value)) (m : Str → Option Value), x ∉ binds.map (·.1) → bindC kd binds m x = m x := by
  intro binds
  induction binds with
  | nil => intro m h; rfl
  | cons p r ih =>
    obtain ⟨n, v⟩ := p
    intro m h
    rw [List.map_cons, List.mem_cons, not_or] at h
    rw [bindC, ih _ h.2]
    split
    · rfl
    · exact if_neg h.1
theorem vJ {kd : Str → Option NameKind} {x : Str} {v : Value} : ∀ (binds : List (Str × Value)) (m : Str → Option Value), (binds.map (·.1)).Nodup → (x, v) ∈ binds → ¬ kd x = some .local → bindC kd binds m x = some v := by
  intro binds
  induction binds with
  | nil => intro m hd h; cases h
  | cons p r ih =>
    obtain ⟨n, u⟩ := p
    intro m hd h hk
    rw [List.map_cons, List.nodup_cons] at hd
    rw [bindC]
    rcases List.mem_cons.mp h with e | h
    · cases e
      rw [sH r _ hd.1, if_neg hk, if_pos rfl]
    · exact ih _ hd.2 h hk
noncomputable def qb (env : Env) : List Addr := env.cells.filterMap fun p => if env.cells.lookup p.1 = some p.2 then some p.2 else Option.none
theorem mc {env : Env} {c : Addr} (h : c ∈ qb env) : ∃ n, env.cells.lookup n = some c := by
  obtain ⟨p, _, e⟩ := List.mem_filterMap.mp h
  by_cases q : env.cells.lookup p.1 = some p.2
  · rw [if_pos q] at e; cases e; exact ⟨_, q⟩
  · rw [if_neg q] at e; cases e
theorem wa {env : Env} {n : Str} {c : Addr} (h : env.cells.lookup n = some c) : c ∈ qb env :=
  List.mem_filterMap.mpr ⟨(n, c), mem_of_lookup h, if_pos h⟩
noncomputable def Vo.call (V : Vo) (env : Env) : Vo := ⟨env :: V.l, env.locals :: qb env ++ V.fs, V.its⟩
section
variable {C : Cx} {T : Tabs} {P : Prg} {A : Around} {q : Bool} {env : Env} {V : Vo} {nms : List Str} {ρ : Loc} {σ σ' : St} {ow ow' : Nat → Option Nat} {s s' : Shared}
theorem Vo.call_sub : ∀ b ∈ zss V, b ∈ zss (V.call env) := fun b h => by
  rcases List.mem_append.mp h with h | h
  · exact List.mem_append_left _ (List.mem_append_right _ h)
  · exact List.mem_append_right _ h
theorem Vo.call_fs {b : Addr} (h : b ∈ (V.call env).fs) : b = env.locals ∨ b ∈ qb env ∨ b ∈ V.fs := by
  rcases List.mem_append.mp h with h | h
  · rcases List.mem_cons.mp h with h | h
    · exact .inl h
    · exact .inr (.inl h)
  · exact .inr (.inr h)
theorem Vo.call_mem {b : Addr} (h : b ∈ zss (V.call env)) : (b = env.locals ∨ b ∈ qb env) ∨ b ∈ zss V := by
  rcases List.mem_append.mp h with h | h
  · rcases Vo.call_fs h with h | h | h
    · exact .inl (.inl h)
    · exact .inl (.inr h)
    · exact .inr (List.mem_append_left _ h)
  · exact .inr (List.mem_append_right _ h)
theorem nA {b : Addr} (h : Zs σ ow (zss V) b) : Zs σ ow (zss (V.call env)) b := h.imp id (Vo.call_sub b)
theorem Good.call_ {h' : Heap} {t : Nat} (G : Good C V σ ow s) (hk : env.scope.kind ≠ .module) (hf : env.frame = some env.locals) (gr : ∀ b o, s.heap.get? b = some o → h'.get? b = some o) (frL : s.heap.get? env.locals = Option.none) (lvL : ∃ o, h'.get? env.locals = some o ∧ ∀ vs, o.data ≠ .fields vs)
    (frC : ∀ n c, env.cells.lookup n = some c → s.heap.get? c = Option.none ∧ ∃ o, h'.get? c = some o) : Good C (V.call env) σ ow { s with heap := h', toks := t } := by
  have fr : ∀ b, b = env.locals ∨ b ∈ qb env → s.heap.get? b = Option.none ∧ ∃ o, h'.get? b = some o := fun b m => by
    rcases m with m | m
    · subst m; exact ⟨frL, lvL.imp fun o e => e.1⟩
    · obtain ⟨n, e⟩ := mc m
      exact frC n b e
  have bn : ∀ b, s.heap.get? b = Option.none → C.base.get? b = Option.none := fun b e => by
    cases z : C.base.get? b with
    | none => rfl
    | some o => have := G.stays b o z; rw [e] at this; cases this
  have zg : Zg (Zs σ ow (zss V)) (Zs σ ow (zss (V.call env))) s.heap := fun b z => by
    rcases z with z | z
    · exact .inl (.inl z)
    · rcases Vo.call_mem z with z | z
      · exact .inr (fr b z).1
      · exact .inl (.inr z)
  refine ⟨fun b o e => gr b o (G.stays b o e), ⟨hk, ?_, G.frames.of_keeps fun b o e _ => ⟨o, gr b o e, rfl⟩⟩, fun b m n => ?_, fun b m => ?_, fun e' he L hL => ?_, fun b o' e => ?_, fun b c e => ?_, G.fresh, fun L hL z => ?_, G.gens⟩
  · obtain ⟨o, e, hd⟩ := lvL
    exact ⟨_, o, hf, bn _ frL, e, hd⟩
  · rcases Vo.call_fs n with n | n | n
    · obtain ⟨_, o, z⟩ := G.mem b (List.mem_append_right _ m)
      rw [(fr b (.inl n)).1] at z; cases z
    · obtain ⟨_, o, z⟩ := G.mem b (List.mem_append_right _ m)
      rw [(fr b (.inr n)).1] at z; cases z
    · exact G.apart b m n
  · rcases Vo.call_mem m with m | m
    · exact ⟨bn _ (fr b m).1, (fr b m).2⟩
    · obtain ⟨x, o, z⟩ := G.mem b m
      exact ⟨x, o, gr b o z⟩
  · rcases List.mem_cons.mp he with he | he
    · subst he
      rw [hf] at hL
      cases hL
      exact List.mem_append_left _ List.mem_cons_self
    · exact List.mem_append_right _ (G.sub e' he L hL)
  · have x := G.store b o' e
    obtain ⟨oa, ea⟩ := Option.isSome_iff_exists.mp x.live
    exact x.kp (fun b o e _ => gr b o e) zg (by rw [ea]; exact gr b oa ea) fun dx hd => by
      obtain ⟨od, ed⟩ := Option.isSome_iff_exists.mp (G.parts dx b hd).2.2
      exact ⟨by rw [ed]; exact gr dx od ed, hd⟩
  · obtain ⟨x1, x2, x3⟩ := G.parts b c e
    obtain ⟨od, ed⟩ := Option.isSome_iff_exists.mp x3
    exact ⟨x1, x2, by show (h'.get? b).isSome = true; rw [gr b od ed]; rfl⟩
  · rcases Vo.call_mem hL with m | m
    · obtain ⟨o, y⟩ := G.live z
      rw [(fr L m).1] at y; cases y
    · exact G.off L m z
theorem Good.left_ (hsub : ∀ env ∈ V.l, ∀ L, env.frame = some L → L ∈ V.fs) (G : Good C (V.call env) σ ow s) : Good C V σ ow s := by
  have zg : ∀ h : Heap, Zg (Zs σ ow (zss (V.call env))) (Zs σ ow (zss V)) h := fun h b z => .inl (nA z)
  refine ⟨G.stays, G.frames.2.2, fun b m n => G.apart b m (List.mem_append_right _ n), fun b m => G.mem b (Vo.call_sub b m), hsub, fun b o' e => ?_, G.parts, G.fresh, fun L hL => G.off L (Vo.call_sub L hL), G.gens⟩
  · exact (G.store b o' e).kp (fun _ _ e _ => e) (zg _) rfl fun dx hd => ⟨rfl, hd⟩
theorem zx {nms : List Str} {vs : List AV} {vals : List Value} {Z : Nat → Prop} {h : Heap} {n : Nat} (r : VRs C Z h vs vals) (hl : vs.length = n) (hn : n ≤ nms.length) {k i : Nat} {v : AV} (e : fJ (vs.map some ++ List.replicate k Option.none) i = some v) :
    ∃ x u, nms[i]? = some x ∧ (x, u) ∈ (nms.take n).zip vals ∧ VR C Z h v u := by
  unfold fJ at e
  rw [List.getD_eq_getElem?_getD] at e
  have hi : i < vs.length := by
    apply Decidable.byContradiction
    intro q
    rw [List.getElem?_append_right (by simpa using Nat.le_of_not_lt q)] at e
    simp only [List.length_map] at e
    rcases Nat.lt_or_ge (i - vs.length) k with z | z
    · rw [List.getElem?_replicate, if_pos z] at e; cases e
    · rw [List.getElem?_replicate, if_neg (by omega)] at e; cases e
  rw [List.getElem?_append_left (by simpa using hi), List.getElem?_map, List.getElem?_eq_getElem hi] at e
  simp at e
  subst e
  obtain ⟨u, hu, ru⟩ := r.get i _ (List.getElem?_eq_getElem hi)
  have hi2 : i < nms.length := by omega
  refine ⟨nms[i], u, List.getElem?_eq_getElem hi2, ?_, ru⟩
  refine List.mem_of_getElem? (i := i) ?_
  rw [List.getElem?_zip_eq_some]
  refine ⟨?_, hu⟩
  rw [List.getElem?_take, if_pos (by omega), List.getElem?_eq_getElem hi2]
theorem wM {d : Nat} {F : Calls} (X : CxOk C T P) {f : Nat} {fi : FnI} {ft : FnT} (hfi : P.fns[f]? = some fi) (hO : FnOk C (C.fnA f) ft fi.arity) (hok : okF fi ft = true) (hB : BothB C d ft.sc ft.nms fi.quiet (fi.body F) ft.body)
    {vs : List AV} {vals : List Value} {Qa : PQ} {Ea : PE} {R : Result → Shared → Prop} (hl : vs.length = fi.arity)
    (w : fi.body F (vs.map some ++ List.replicate (fi.nloc - fi.arity) Option.none) σ (kFn Qa) (eFn Ea))
    (G : Good C V σ ow s) (ha : AOkF A V (d + 1)) (hh : HOk A fi.quiet (Zs σ ow (zss V)) s.heap) (r : VRs C (Zs σ ow (zss V)) s.heap vs vals)
    (kv : KV C V σ ow s (RV C) Qa (fun v s' => R (.ok (.ret v)) s')) (kx : KX C V σ ow s Ea (fun e s' => R (.error e) s')) : codeAny (model C.prog C.w) A (.call (.ref (C.fnA f)) ⟨vals, []⟩) R s := by
  obtain ⟨o, fd, f1, f2, f3, f4, f5, f6, f7, f8, f9, f10⟩ := hO.ex
  unfold okF at hok
  simp only [Bool.and_eq_true, decide_eq_true_eq, beq_iff_eq, Bool.not_eq_true', List.all_eq_true, Bool.or_eq_true] at hok
  obtain ⟨⟨⟨⟨⟨⟨o2, o3⟩, o4⟩, o5⟩, o6⟩, o7⟩, o8⟩ := hok
  have hlv : vals.length = fi.arity := r.length ▸ hl
  have hcell : ∀ x, ft.sc.names.lookup x = some .cell → ((cellsFrom (s.heap.objs.size + 1) fd.scope.names []).lookup x).isSome = true := fun x h => pL _ _ _ _ (by rw [f5]; exact h)
  refine codeAny_call_cells (by have := ha.depth; omega) (G.stays _ _ f1) f3 (X.nolimit.keeps G.stays) (f9.keeps G.stays) f4 (f10 vals hlv) f8 (fun p hp => ?_) (fun s₁ x => ?_) (by rw [f5]; exact o6) (by rw [f5]; exact o5) (by rw [f5]; exact o4)
  · have hm : p.1 ∈ ft.nms := List.mem_of_mem_take (List.of_mem_zip hp).1
    rw [f5]
    rcases o3 p.1 hm with h | h
    · exact .inl h
    · exact .inr ⟨h, by rw [← f5]; exact hcell p.1 h⟩
  generalize henv : callEnvC fd s.heap.objs.size (C.fnA f) = env at x ⊢
  have eL : env.locals = s.heap.objs.size := by rw [← henv]; rfl
  have eS : env.scope = ft.sc := by rw [← henv]; exact f5
  have eF : env.frame = some env.locals := by rw [← henv]; rfl
  have eC : env.cells = cellsFrom (s.heap.objs.size + 1) fd.scope.names [] := by rw [← henv]; rfl
  have eG : env.globals = mainGlobals := by rw [← henv]; exact f6
  have eB : env.builtins = builtinsNs := by rw [← henv]; exact f7
  obtain ⟨xin, xc, xa, xv⟩ := x
  obtain ⟨⟨h', tk, rfl⟩, xn, xk, xf⟩ := xin
  have frL : s.heap.get? env.locals = Option.none := by rw [eL]; exact Heap.fresh _
  have frC : ∀ n c, env.cells.lookup n = some c → s.heap.get? c = Option.none := fun n c e => by
    cases z : s.heap.get? c with
    | none => rfl
    | some ob =>
      have h1 := Heap.lt_size z
      have h2 := xv n c (mem_of_lookup e)
      exact absurd (Nat.lt_of_lt_of_le h1 xf) (Nat.not_lt.mpr (Nat.le_of_lt h2))
  have frX : ∀ b ∈ eu env, s.heap.get? b = Option.none := fun b m => by
    rcases List.mem_cons.mp m with m | m
    · rw [m]; exact frL
    · obtain ⟨p, hp, e⟩ := List.mem_map.mp m
      cases z : s.heap.get? b with
      | none => rfl
      | some ob =>
        have h1 := Heap.lt_size z
        have h2 := xv p.1 p.2 hp
        subst e
        exact absurd (Nat.lt_of_lt_of_le h1 xf) (Nat.not_lt.mpr (Nat.le_of_lt h2))
  have lvL : ∃ o, h'.get? env.locals = some o ∧ ∀ vs, o.data ≠ .fields vs := by
    obtain ⟨o, es, ep, ho, hd, _⟩ := xn
    exact ⟨o, ho, fun vs q => by rw [hd] at q; cases q⟩
  have g₁ : Good C (V.call env) σ ow { s with heap := h', toks := tk } := G.call_ (by rw [eS, o4]; decide) eF xk frL lvL fun n c e => ⟨frC n c e, by
    obtain ⟨o, z, _⟩ := xc n c e
    exact ⟨o, z⟩⟩
  have zg : Zg (Zs σ ow (zss V)) (Zs σ ow (zss (V.call env))) s.heap := fun b z => by
    rcases z with z | z
    · exact .inl (.inl z)
    · rcases Vo.call_mem z with z | z
      · rcases z with z | z
        · exact .inr (by rw [z]; exact frL)
        · obtain ⟨n, e⟩ := mc z
          exact .inr (frC n b e)
      · exact .inl (.inr z)
  have hFE : FEnv env ft.nms (V.call env) V.l := by
    refine ⟨rfl, by rw [eS]; exact o4, eF, List.mem_append_left _ List.mem_cons_self, fun y c hc => ⟨List.mem_append_left _ (List.mem_cons_of_mem _ (wa hc)), ?_⟩, fun y z c hy hz => name_of_addr xa (mem_of_lookup hy) (mem_of_lookup hz), o2, fun y hy => ?_⟩
    · have := xv y c (mem_of_lookup hc)
      exact Nat.ne_of_gt this
    · unfold Env.kindOf
      rw [eS]
      rcases o3 y hy with h | h
      · exact .inl h
      · exact .inr ⟨h, by
          have := hcell y h
          rw [← eC] at this
          exact Option.isSome_iff_exists.mp this⟩
  have nd : (((ft.nms.take fi.arity).zip vals).map (·.1)).Nodup := by
    rw [List.map_fst_zip (by rw [List.length_take]; omega)]
    exact o2.sublist (List.take_sublist _ _)
  have ha' : AOk (A.deeper env) (V.call env) d := ha.deeper env _ _
  have k₁ : SOk C (A.deeper env) fi.quiet env (V.call env) ft.nms (vs.map some ++ List.replicate (fi.nloc - fi.arity) Option.none) σ ow { s with heap := h', toks := tk } := by
    refine ⟨⟨g₁, ⟨by rw [eS]; exact o4, eG, eB, fun z => ?_, fun i v e => ?_⟩, ?_, lvL.imp fun o e => e.1⟩, ⟨_, xn⟩, fun y c hc => ⟨_, xc y c hc⟩⟩
    · obtain ⟨ob, y⟩ := G.live z
      rw [frL] at y; cases y
    · obtain ⟨y, u, ey, hm, ru⟩ := zx (nms := ft.nms) r hl o7 e
      refine ⟨y, u, ey, ru.kp (fun b o e _ => xk b o e) zg, ?_⟩
      have hy : y ∈ ft.nms := List.mem_of_getElem? ey
      rcases hFE.kinds y hy with h | ⟨h, c, hc⟩
      · exact .inl ⟨h, _, xn, wg _ _ nd hm h⟩
      · refine .inr ⟨c, .inl h, hc, ?_, fun z => ?_⟩
        · have := xc y c hc
          rw [vJ _ _ nd hm (by rw [h]; decide)] at this
          exact this
        · obtain ⟨ob, w⟩ := G.live z
          rw [frC y c hc] at w; cases w
    · rcases hh with h | ⟨hq, e, o, vs, h1, h2, h3, h4, h5⟩
      · exact .inl h
      · exact .inr ⟨hq, e, o, vs, h1, xk _ _ h2, h3, h4, zg.not h2 h5⟩
  have toStp : ∀ σ' ow' s', SStp (eu env) (V.call env).fs (Own σ ow) (Own σ' ow') { s with heap := h', toks := tk } s' → Stp (frs V) (Own σ ow) (Own σ' ow') s s' := fun σ' ow' s' x => by
    have nC : ∀ b o, s.heap.get? b = some o → b ∉ V.fs → b ∉ (V.call env).fs := fun b o e n m => by
      rcases Vo.call_fs m with m | m | m
      · rw [m, frL] at e; cases e
      · obtain ⟨y, hy⟩ := mc m
        rw [frC y b hy] at e; cases e
      · exact n m
    refine ⟨fun b o e n m => x.keep b o (xk b o e) n (nC b o e m), fun b o e m => x.frm b o (xk b o e) (List.mem_append_right _ m) (fun w => by rw [frX b w] at e; cases e), x.grow, fun b z => (x.fresh b z).imp id fun w => ?_, x.gens, x.drawn, x.os⟩
    cases e : s.heap.get? b with
    | none => rfl
    | some o => have := xk b o e; have w' : h'.get? b = Option.none := w; rw [w'] at this; cases this
  have vrL : ∀ {σ' : St} {ow' : Nat → Option Nat} {h : Heap} {v : AV} {u : Value}, VR C (Zs σ' ow' (zss (V.call env))) h v u → VR C (Zs σ' ow' (zss V)) h v u := fun r => r.kp (fun _ _ e _ => e) fun b z => .inl (nA z)
  refine hB.snd (A.deeper env) env (V.call env) V.l hFE eS ha' _ σ ow _ _ _ _ _ w k₁ (fun fl af ρ' σ' ow' s' z st k' rf => ?_) (fun e c ρ' σ' ow' s' z st k' th => ?_)
  · cases rf with
    | next => exact kv _ _ σ' ow' s' z (toStp _ _ _ st) (k'.ok.good.left_ G.sub) .none
    | ret r' => exact kv _ _ σ' ow' s' z (toStp _ _ _ st) (k'.ok.good.left_ G.sub) (vrL r')
  · have t0 := th.1
    unfold leaving
    refine wpAny_bind (lE hFE ha'.frames g₁.stays st k' th fun s'' Tb st' k'' x nT nZ => ?_)
    refine dF hFE g₁.stays st' k'' ⟨t0.1, t0.2.1⟩ x nT nZ fun s₃ st₃ k₃ x₃ => ?_
    have up : ∀ b, h'.get? b = Option.none → s.heap.get? b = Option.none := fun b w => by
      cases e : s.heap.get? b with
      | none => rfl
      | some o => have := xk b o e; rw [w] at this; cases this
    exact kx e c σ' ow' s₃ z (toStp _ _ _ st₃) (k₃.ok.good.left_ G.sub) ⟨⟨up _ t0.1, fun w => t0.2.1 (nA w), t0.2.2⟩, _, x₃, fun T' fl' y => by cases y; exact ⟨rfl, up _ nT, fun w => nZ (nA w)⟩⟩
theorem zA (X : CxOk C T P) (hok : ∀ (f : Nat) (fi : FnI) (ft : FnT), P.fns[f]? = some fi → T.fts[f]? = some ft → okF fi ft = true)
    (hB : ∀ (F : Calls) (d : Nat), bT C P d F → ∀ (f : Nat) (fi : FnI) (ft : FnT), P.fns[f]? = some fi → T.fts[f]? = some ft → BothB C d ft.sc ft.nms fi.quiet (fi.body F) ft.body) : ∀ d, bT C P d (wpF P d) := by
  intro d
  induction d with
  | zero => exact fun f vs vals σ ow s Qa Ea R A V w => False.elim w
  | succ d ih =>
    intro f vs vals σ ow s Qa Ea R A V w G ha hh r kv kx
    obtain ⟨fi, hfi, hl, w⟩ := w
    obtain ⟨ft, h1, h2⟩ := X.fns f fi hfi
    have hq : qOf P f = fi.quiet := by unfold qOf; rw [hfi]; rfl
    rw [hq] at hh
    exact wM X hfi h2 (hok f fi ft hfi h1) (hB _ d ih f fi ft hfi h1) hl w G ha hh r kv kx
end
end Ap
end
section
namespace Ap
open PySem PySem.W PySem.Calls PyProof.Rows
section
variable {prog : Program} {w : World} {A : Around} {E : Value → Shared → Prop} {s : Shared} {K : Frag} {x D : Addr} {ox : Obj} {odo : Option Obj}
theorem wY {a g : Value} {name : Str} (hc : (clsIn K D).isSome = true) (ha : findIn K (.ref D) name = some (some a)) (hg : specialIn K a "__get__" = some (some g)) (ht : takesIn K a = some true) : findObj K D odo name = some (.bind g a) := by
  obtain ⟨cd, hc⟩ := Option.isSome_iff_exists.mp hc
  unfold findObj
  rw [hc, Option.bind_some, ha, Option.bind_some]
  simp [hg, ht]
structure XFacts (K : Frag) (D : Addr) : Prop where
  ga : findIn K (.ref D) "__getattribute__" = some (some (.builtin "BaseException.__getattribute__"))
  gh : findIn K (.ref D) "__getattr__" = some Option.none
  ca : findIn K (.ref D) "__class__" = some (some (.builtin "object.__class__"))
  cg : specialIn K (.builtin "object.__class__") "__get__" = some (some (.builtin "getset_descriptor.__get__"))
  ct : takesIn K (.builtin "object.__class__") = some true
  mo : mroIn K D (.type "object") = some true
  mb : mroIn K D (.type "BaseException") = some true
  cl : (clsIn K D).isSome = true
theorem wB (XF : XFacts K D) {Q : Option Value → Shared → Prop} (X : K.In s.heap) (I : InstAt s.heap x ox D odo) (hS : Slot "ValueError" "__getattribute__" "BaseException.__getattribute__") (h : Q (some (.ref D)) { s with toks := s.toks + 1 }) : wpAny (model prog w) A (getAttr? (.ref x) "__class__") Q E s := by
  obtain ⟨hh, g, d, t, os⟩ := s
  have L0 := I.type (M := model prog w)
  have L1 := looks_findIn (M := model prog w) X XF.ga
  have L2 := looks_findIn (M := model prog w) X XF.gh
  have L3 := looks_find (M := model prog w) X I (wY (odo := odo) XF.cl XF.ca XF.cg XF.ct)
  have L4 := looks_mroIn (M := model prog w) X XF.mb
  have hk : builtinKind "BaseException.__getattribute__" = some .slot := by decide +kernel
  have hsplit : splitId "BaseException.__getattribute__" = some ("BaseException", "__getattribute__") := by decide +kernel
  have hb := hS.bind (.ref x)
  have hx2 : (Value.builtin "BaseException.__getattribute__" == Value.builtin "object.__getattribute__") = false := by decide +kernel
  unfold getAttr? getAttrBy? getAttrBy
  refine wpAny_bind (wpAny_mkText (wpAny_bind (wpAny_attempt (wpAny_holding (wpAny_bind (L0.at (wpAny_bind (L1.at ?_))))))))
  show wpAny _ _ (if (onTheHeap (Value.ref D) && Value.builtin "BaseException.__getattribute__" == Value.builtin "object.__getattribute__") = true then _ else _) _ _ _
  rw [hx2, Bool.and_false, if_neg (by decide)]
  unfold getAttrByItsOwn hookBefore
  refine wpAny_bind ?_
  show wpAny _ _ (typeLookup (.ref D) "__getattr__") _ _ _
  refine L2.at ?_
  refine wpAny_bind (wpAny_attempt (wpAny_holding ?_))
  unfold callGetattribute boundAndCalled
  rw [Bool.false_and, if_neg (by decide), hb]
  refine wpAny_bind (wpAny_pure ?_)
  show wpAny _ _ (call (.builtin "BaseException.__getattribute__") [.ref x, .str "__class__" t]) _ _ _
  have ha := F.args_bexc_ga (.ref x) (.str "__class__" t)
  refine wpAny_call (codeAny_call_builtin hS.plain F.entry_bexc_ga ?_)
  simp only [checkBuiltinCall, hk, hsplit]
  refine wpAny_bind ?_
  unfold isInstance
  refine wpAny_bind (L0.at (L4.at ?_))
  rw [if_neg (by decide)]
  refine wpAny_of_eq (a := ()) ha ?_
  unfold Builtin.«object.__getattribute__» slotArgs
  refine wpAny_bind (wpAny_pure ?_)
  refine wpAny_bind (wpAny_pure ?_)
  refine wpAny_bind (L0.at (wpAny_bind (L3.at ?_)))
  show wpAny _ _ (Builtin.ObjectAttr.bindTo _ _ _ _) _ _ _
  unfold Builtin.ObjectAttr.bindTo
  refine wpAny_bind (wpAny_holding (wpAny_call (class_get (s := ⟨hh, g, d, t + 1, os⟩) X I XF.mo ?_)))
  refine wpAny_pure ?_
  refine handed_on rfl ?_
  exact wpAny_pure h
end
section
noncomputable def oK (K : Frag) (a : Addr) : Obj := (K.lookup a).getD default
noncomputable def cdK (K : Frag) (a : Addr) : ClassData := match (oK K a).data with | .cls cd => cd | _ => default
noncomputable def fdK (K : Frag) (a : Addr) : FuncData := match (oK K a).data with | .func fd => fd | _ => default
noncomputable def esK (K : Frag) (a : Addr) : Array DictEntry := match (oK K a).data with | .dict es _ => es | _ => #[]
noncomputable def epK (K : Frag) (a : Addr) : Nat := match (oK K a).data with | .dict _ ep => ep | _ => 0
noncomputable def fsK (K : Frag) (a : Addr) : Array Value := match (oK K a).data with | .fields vs => vs | _ => #[]
noncomputable def slK (K : Frag) (a : Addr) (i : Nat) : Option Value := ((oK K a).slots.toList[i]?).getD Option.none
noncomputable def adK : Value → Addr | .ref a => a | _ => 0
noncomputable def tkK : Value → Tok | .str _ t => t | _ => 0
noncomputable def isS : Value → Bool | .str _ _ => true | _ => false
theorem CR {v : Value} (h : isS v = true) : ∃ n t, v = .str n t := by
  cases v <;> first | exact ⟨_, _, rfl⟩ | cases h
structure NsD (K : Frag) (N : Addr) : Prop where
  at_ : K.lookup N = some { oK K N with data := .dict (esK K N) (epK K N) }
  keys : ((esK K N).toList.all fun e => isS e.key) = true
theorem NsD.ns {K : Frag} {h : Heap} {N : Addr} (X : K.In h) (e : NsD K N) : h.Ns N (nsFind (esK K N)) :=
  ⟨_, _, _, X _ _ e.at_, rfl, fun x hx => CR (List.all_eq_true.mp e.keys x (Array.mem_toList_iff.mpr hx)), fun _ => rfl⟩
theorem vk {h : Heap} {N : Addr} {m m' : Str → Option Value} (a : h.Ns N m) (b : h.Ns N m') (x : Str) : m x = m' x := by
  obtain ⟨o1, es1, ep1, a1, a2, _, a3⟩ := a
  obtain ⟨o2, es2, ep2, b1, b2, _, b3⟩ := b
  rw [a1] at b1
  cases b1
  rw [a2] at b2
  cases b2
  rw [← a3, b3]
structure ClsK (K : Frag) (T : Tabs) (fa : List Addr) (a : Addr) (ci : ClsI) : Prop where
  at_ : K.lookup a = some (excClassObj (cdK K a).name (cdK K a).qualname a (cdK K a).ns (cdK K a).bases [.type "object"] true (cdK K a).slotNames (cdK K a).subclasses false (cdK K a).collection (oK K a).dict (slK K a 0) (slK K a 1) (slK K a 2) (slK K a 3) (slK K a 5) "object.__new__")
  ns : NsD K (cdK K a).ns
  ga : nsFind (esK K (cdK K a).ns) "__getattribute__" = Option.none
  gt : nsFind (esK K (cdK K a).ns) "__getattr__" = Option.none
  sa : nsFind (esK K (cdK K a).ns) "__setattr__" = Option.none
  ini : ∀ f, ci.init = some f → nsFind (esK K (cdK K a).ns) "__init__" = some (.ref (fa.getD f 0))
  ms : (ci.meths.all fun p => nsFind (esK K (cdK K a).ns) (T.atN.getD p.1 Str.empty) == some (.ref (fa.getD p.2 0))) = true
  no : ((List.range T.atN.length).all fun k => (ci.meths.lookup k).isSome || nsFind (esK K (cdK K a).ns) (T.atN.getD k Str.empty) == Option.none) = true
theorem uR {α β : Type} [BEq α] [LawfulBEq α] {a : α} {b : β} : ∀ {l : List (α × β)}, l.lookup a = some b → (a, b) ∈ l := by
  intro l
  induction l with
  | nil => intro h; cases h
  | cons p r ih =>
    obtain ⟨k, v⟩ := p
    intro h
    rw [List.lookup_cons] at h
    cases hb : a == k with
    | true => rw [hb] at h; cases h; rw [beq_iff_eq.mp hb]; exact List.mem_cons_self
    | false => rw [hb] at h; exact List.mem_cons_of_mem _ (ih h)
noncomputable def veM : List Value := [.type "ValueError", .type "Exception", .type "BaseException", .type "object"]
noncomputable def xfK (K : Frag) (D : Addr) : Bool :=
  findIn K (.ref D) "__getattribute__" == some (some (.builtin "BaseException.__getattribute__")) && findIn K (.ref D) "__getattr__" == some Option.none && findIn K (.ref D) "__class__" == some (some (.builtin "object.__class__")) &&
  specialIn K (.builtin "object.__class__") "__get__" == some (some (.builtin "getset_descriptor.__get__")) && takesIn K (.builtin "object.__class__") == some true && mroIn K D (.type "object") == some true && mroIn K D (.type "BaseException") == some true && (clsIn K D).isSome
theorem xF {K : Frag} {D : Addr} (h : xfK K D = true) : XFacts K D := by
  unfold xfK at h
  simp only [Bool.and_eq_true, beq_iff_eq] at h
  obtain ⟨⟨⟨⟨⟨⟨⟨h1, h2⟩, h3⟩, h4⟩, h5⟩, h6⟩, h7⟩, h8⟩ := h
  exact ⟨h1, h2, h3, h4, h5, h6, h7, h8⟩
structure ExcK (K : Frag) (a : Addr) : Prop where
  at_ : K.lookup a = some (excClassObj (cdK K a).name (cdK K a).qualname a (cdK K a).ns (cdK K a).bases (cdK K a).mro.tail (cdK K a).hasDict (cdK K a).slotNames (cdK K a).subclasses (cdK K a).abstract (cdK K a).collection (oK K a).dict (slK K a 0) (slK K a 1) (slK K a 2) (slK K a 3) (slK K a 5) "ValueError.__new__")
  ns : NsD K (cdK K a).ns
  ini : nsFind (esK K (cdK K a).ns) "__init__" = Option.none
  tail : (cdK K a).mro.tail = veM ∨ ∃ p, (cdK K a).mro.tail = .ref p :: veM ∧ K.lookup p = some { oK K p with data := .cls (cdK K p) } ∧ NsD K (cdK K p).ns ∧ nsFind (esK K (cdK K p).ns) "__init__" = Option.none
  be : (cdK K a).mro.tail.contains (.type "BaseException") = true
  xf : xfK K a = true
  kv : kitOne K (.ref a) (.type "ValueError") = some true
theorem ExcK.at' {C : Cx} {K : Frag} {c : Nat} (X : K.In C.base) (h : ExcK K (C.clsA c)) : ExcAt C c := by
  refine ⟨⟨_, _, _, _, _, veM, _, _, _, _, _, _, _, _, _, _, _, "ValueError", "ValueError.__new__", "ValueError.__init__", _, X _ _ h.at_, h.ns.ns X, h.ini, ?_, PySem.F.excBase_ValueError, h.be⟩⟩
  rcases h.tail with e | ⟨p, e, p1, p2, p3⟩
  · rw [e]; exact .base
  · rw [e]; exact .own (X _ _ p1) (p2.ns X) p3 .base
theorem xg {K : Frag} {x D : Addr} {ox : Obj} (XF : XFacts K D) : KitX K (.ref x) (.ref D) (fun h => InstAt h x ox D Option.none) where
  ty := fun _ _ _ I => I.type
  it := fun _ _ X _ => by
    obtain ⟨cdD, hcD⟩ := Option.isSome_iff_exists.mp XF.cl
    unfold clsIn at hcD
    split at hcD
    · rename_i c' d' cd' sl' ho
      intro A' Q' E' s' k q
      unfold isType loadHead
      exact wpAny_bind (wpAny_loadPart (k _ _ (X _ _ ho)) (wpAny_pure q))
    · cases hcD
  ne := fun h tp dd its n sl X htp => by
    obtain ⟨cdD, hcD⟩ := Option.isSome_iff_exists.mp XF.cl
    refine Bool.eq_false_iff.mpr fun q => ?_
    have e : D = tp := Value.ref.inj (beq_iff_eq.mp q)
    subst e
    unfold clsIn at hcD
    split at hcD
    · rename_i c' d' cd' sl' ho
      have z := (X _ _ ho).symm.trans htp
      cases z
    · cases hcD
  ca := fun X I k => wB XF X I PySem.F.attr_ValueError.ga k
theorem vq {h : Heap} {e D : Addr} {o : Obj} {vs : Array Value} (h1 : h.get? e = some o) (h2 : o.cls = .ref D) (h3 : o.data = .fields vs) (h4 : o.dict = Option.none) : InstAt h e o D Option.none :=
  ⟨h1, h2, by unfold notCls; rw [h3], by rw [h4]; trivial⟩
theorem uW {C : Cx} {K : Frag} {c : Nat} {t : Value} {b : Bool} (X : K.In C.base) (XF : XFacts K (C.clsA c)) (e : kitOne K (.ref (C.clsA c)) t = some b) : CD C c t b :=
  fun A Q E s e' o vs st h1 h2 h3 h4 h => kia_one (xg XF) (X.keeps st) (vq h1 h2 h3 h4) e (by intro q; cases q) h
theorem zR {C : Cx} {K : Frag} {c d : Nat} {b : Bool} (X : K.In C.base) (e : exmOne K (.ref (C.clsA c)) (.ref (C.clsA d)) = some b) : EK C c d b :=
  fun A Q E s e' o vs st h1 h2 h3 h4 h => (exm_one (X.keeps st) (vq h1 h2 h3 h4).type e).here h
structure FnK (K : Frag) (a : Addr) (fi : FnI) (ft : FnT) : Prop where
  at_ : K.lookup a = some { oK K a with cls := .type "function", data := .func (fdK K a) }
  body : (fdK K a).body = .stmts ft.body
  scope : (fdK K a).scope = ft.sc
  globals : (fdK K a).globals = mainGlobals
  builtins : (fdK K a).builtins = builtinsNs
  closure : (fdK K a).closure = []
  cref : (fdK K a).code = .ref (adK (fdK K a).code)
  cobj : K.lookup (adK (fdK K a).code) = some { oK K (adK (fdK K a).code) with data := .fields (fsK K (adK (fdK K a).code)) }
  cnam : (fsK K (adK (fdK K a).code))[1]? = some (.str (fdK K a).qualname (tkK (((fsK K (adK (fdK K a).code))[1]?).getD .none)))
  bind : ∀ vals : List Value, vals.length = fi.arity → bindArgs (fdK K a) ⟨vals, []⟩ = pure ((ft.nms.take fi.arity).zip vals)
theorem dq {fd : FuncData} {r : List Value → List (Str × Value)} (h : ∀ a, bindArgs fd ⟨[a], []⟩ = pure (r [a])) (vals : List Value) (hl : vals.length = 1) : bindArgs fd ⟨vals, []⟩ = pure (r vals) := by
  obtain ⟨a, rfl⟩ := List.length_eq_one_iff.mp hl
  exact h a
theorem gA {n : Nat} {vals : List Value} (hl : vals.length = n + 1) : ∃ a r, vals = a :: r ∧ r.length = n := by
  cases vals with
  | nil => cases hl
  | cons a r => exact ⟨a, r, rfl, Nat.succ.inj hl⟩
theorem fx {fd : FuncData} {r : List Value → List (Str × Value)} (h : ∀ a b, bindArgs fd ⟨[a, b], []⟩ = pure (r [a, b])) (vals : List Value) (hl : vals.length = 2) : bindArgs fd ⟨vals, []⟩ = pure (r vals) := by
  obtain ⟨a, v1, rfl, h1⟩ := gA hl
  obtain ⟨b, rfl⟩ := List.length_eq_one_iff.mp h1
  exact h a b
theorem nQ {fd : FuncData} {r : List Value → List (Str × Value)} (h : ∀ a b c, bindArgs fd ⟨[a, b, c], []⟩ = pure (r [a, b, c])) (vals : List Value) (hl : vals.length = 3) : bindArgs fd ⟨vals, []⟩ = pure (r vals) := by
  obtain ⟨a, v1, rfl, h1⟩ := gA hl
  obtain ⟨b, v2, rfl, h2⟩ := gA h1
  obtain ⟨c, rfl⟩ := List.length_eq_one_iff.mp h2
  exact h a b c
theorem xq {fd : FuncData} {r : List Value → List (Str × Value)} (h : ∀ a b c d, bindArgs fd ⟨[a, b, c, d], []⟩ = pure (r [a, b, c, d])) (vals : List Value) (hl : vals.length = 4) : bindArgs fd ⟨vals, []⟩ = pure (r vals) := by
  obtain ⟨a, v1, rfl, h1⟩ := gA hl
  obtain ⟨b, v2, rfl, h2⟩ := gA h1
  obtain ⟨c, v3, rfl, h3⟩ := gA h2
  obtain ⟨d, rfl⟩ := List.length_eq_one_iff.mp h3
  exact h a b c d
structure KDat (K : Frag) (T : Tabs) (P : Prg) (fa ca : List Addr) : Prop where
  g : NsD K mainGlobals
  fnN : (T.fnN.zipIdx.all fun p => p.1 == Str.empty || nsFind (esK K mainGlobals) p.1 == some (.ref (fa.getD p.2 0))) = true
  clsN : (T.clsN.zipIdx.all fun p => nsFind (esK K mainGlobals) p.1 == some (.ref (ca.getD p.2 0))) = true
  bltN : (T.bltN.all fun x => nsFind (esK K mainGlobals) x == Option.none) = true
  inj : T.atN.Nodup
  ne : Str.empty ∉ T.atN
  objN : (T.atN.all fun x => fastLookup "object" x == some Option.none) = true
  lens : fa.length = P.fns.length ∧ T.fnN.length = P.fns.length ∧ ca.length = P.cls.length ∧ T.fts.length = P.fns.length
  ics : ∀ c ci, P.cls[c]? = some ci → ci.init ≠ Option.none → ClsK K T fa (ca.getD c 0) ci
  xcs : ∀ c ci, P.cls[c]? = some ci → ci.init = Option.none → ExcK K (ca.getD c 0)
  xps : ((P.cls.zip ca).all fun p => p.1.init.isSome || (P.cls.zip ca).zipIdx.all fun q => q.1.1.init.isSome || (kitOne K (.ref p.2) (.ref q.1.2) == some (p.1.sups.contains q.2) && exmOne K (.ref p.2) (.ref q.1.2) == some (p.1.sups.contains q.2))) = true
  fns : ∀ f fi ft, P.fns[f]? = some fi → T.fts[f]? = some ft → FnK K (fa.getD f 0) fi ft
  sh : ((P.fns.zip T.fts).all fun p => okF p.1 p.2) = true
noncomputable def wz (P : Prg) (b : Bool) (c : Nat) : Bool := match P.cls[c]? with | some ci => ci.init.isSome == b | Option.none => false
theorem vm {P : Prg} {b : Bool} {c : Nat} (h : wz P b c = true) : ∃ ci, P.cls[c]? = some ci ∧ ci.init.isSome = b := by
  unfold wz at h
  cases e : P.cls[c]? with
  | none => rw [e] at h; cases h
  | some ci => rw [e] at h; exact ⟨ci, rfl, beq_iff_eq.mp h⟩
theorem vz {P : Prg} {b : Bool} {c : Nat} {ci : ClsI} (h : P.cls[c]? = some ci) (h' : ci.init.isSome = b) : c ∈ (List.range P.cls.length).filter (wz P b) := by
  refine List.mem_filter.mpr ⟨List.mem_range.mpr (List.getElem?_eq_some_iff.mp h).1, ?_⟩
  unfold wz
  rw [h]
  exact beq_iff_eq.mpr h'
noncomputable def pK (prog : Program) (w : World) (h : Heap) (mg mb : Str → Option Value) (T : Tabs) (P : Prg) (fa ca : List Addr) : Cx where
  prog := prog
  w := w
  base := h
  clsA := fun c => ca.getD c 0
  fnA := fun f => fa.getD f 0
  nm := fun k => T.atN.getD k Str.empty
  mg := mg
  mb := mb
  ics := (List.range P.cls.length).filter (wz P true)
  xcs := (List.range P.cls.length).filter (wz P false)
theorem vA {α β : Type} {l : List α} {r : List β} {i : Nat} {a : α} {b : β} (h1 : l[i]? = some a) (h2 : r[i]? = some b) : (a, b) ∈ l.zip r :=
  List.mem_of_getElem? (i := i) (List.getElem?_zip_eq_some.mpr ⟨h1, h2⟩)
theorem vt {l : List Nat} {i d : Nat} (h : i < l.length) : l[i]? = some (l.getD i d) := by
  rw [List.getD_eq_getElem?_getD, List.getElem?_eq_getElem h]; rfl
theorem AB {K : Frag} {T : Tabs} {P : Prg} {fa ca : List Addr} {prog : Program} {w : World} {h : Heap} {mg mb : Str → Option Value} (X : K.In h) (g : h.Ns mainGlobals mg) (b : h.Ns builtinsNs mb) (nl : h.NoLimit)
    (bt : ∀ x : Str, x ≠ "__name__" → mb x = bootBuiltins x) (D : KDat K T P fa ca) : CxOk (pK prog w h mg mb T P fa ca) T P := by
  obtain ⟨l1, l2, l3, l4⟩ := D.lens
  have gv : ∀ x r, nsFind (esK K mainGlobals) x = r → mg x = r := fun x r e => (vk g (D.g.ns X) x).trans e
  have xc : ∀ c ∈ (pK prog w h mg mb T P fa ca).xcs, ∃ ci, P.cls[c]? = some ci ∧ ci.init = Option.none := fun c hc => by
    obtain ⟨ci, h1, h2⟩ := vm (List.mem_filter.mp hc).2
    refine ⟨ci, h1, ?_⟩
    cases e : ci.init with
    | none => rfl
    | some f => rw [e] at h2; cases h2
  have xp : ∀ c ∈ (pK prog w h mg mb T P fa ca).xcs, ∀ d ∈ (pK prog w h mg mb T P fa ca).xcs, ∀ ci, P.cls[c]? = some ci → kitOne K (.ref (ca.getD c 0)) (.ref (ca.getD d 0)) = some (ci.sups.contains d) ∧ exmOne K (.ref (ca.getD c 0)) (.ref (ca.getD d 0)) = some (ci.sups.contains d) := fun c hc d hd ci hci => by
    obtain ⟨ci', y1, y2⟩ := xc c hc
    rw [hci] at y1
    cases y1
    obtain ⟨cj, z1, z2⟩ := xc d hd
    have lc : c < ca.length := by rw [l3]; exact (List.getElem?_eq_some_iff.mp hci).1
    have ld : d < ca.length := by rw [l3]; exact (List.getElem?_eq_some_iff.mp z1).1
    have := List.all_eq_true.mp D.xps _ (vA hci (vt (d := 0) lc))
    rw [y2, Option.isSome_none, Bool.false_or] at this
    have hz : ((cj, ca.getD d 0), d) ∈ (P.cls.zip ca).zipIdx := List.mem_zipIdx_iff_getElem?.mpr (List.getElem?_zip_eq_some.mpr ⟨z1, vt ld⟩)
    have := List.all_eq_true.mp this _ hz
    rw [z2, Option.isSome_none, Bool.false_or, Bool.and_eq_true, beq_iff_eq, beq_iff_eq] at this
    exact this
  refine
  { g := g, b := b, nolimit := nl, builtins := bt
    fnN := fun f x e ne => ?_, clsN := fun c x e => ?_, bltN := fun x hx => ?_, nm := fun _ => rfl, inj := D.inj, ne := D.ne, objN := fun x hx => ?_, fnF := fun f hf => ?_,
    cls := fun c hc => ?_, ics := fun c ci hc hi => ?_, xcs := fun c ci hc hi => ?_, isiC := fun c hc d hd ci hci => ?_, isiV := fun c hc => ?_, exm := fun c hc d hd ci hci => ?_, exc := fun c hc => ?_, fns := fun f fi hf => ?_ }
  · have := List.all_eq_true.mp D.fnN (x, f) (List.mem_zipIdx_iff_getElem?.mpr e)
    rw [Bool.or_eq_true, beq_iff_eq, beq_iff_eq] at this
    exact gv _ _ (this.resolve_left ne)
  · have := List.all_eq_true.mp D.clsN (x, c) (List.mem_zipIdx_iff_getElem?.mpr e)
    rw [beq_iff_eq] at this
    exact gv _ _ this
  · have := List.all_eq_true.mp D.bltN x hx
    rw [beq_iff_eq] at this
    exact gv _ _ this
  · have := List.all_eq_true.mp D.objN x hx
    rw [beq_iff_eq] at this
    rw [typeLookup_type, builtinLookup_eq_fast, this]
  · have hp : f < P.fns.length := by omega
    exact ⟨_, _, X _ _ (D.fns f _ _ (List.getElem?_eq_getElem hp) (List.getElem?_eq_getElem (by omega))).at_, rfl, rfl⟩
  · obtain ⟨ci, h1, h2⟩ := vm (List.mem_filter.mp hc).2
    have k := D.ics c ci h1 (fun e => by rw [e] at h2; cases h2)
    refine ⟨ci, h1, ⟨⟨_, _, _, _, _, _, _, _, _, _, _, _, _, _, X _ _ k.at_, k.ns.ns X, k.ga, k.gt, k.sa, k.ini, fun m f hm => ?_, fun m hm hl => ?_⟩⟩⟩
    · exact beq_iff_eq.mp (List.all_eq_true.mp k.ms (m, f) (uR hm))
    · have := List.all_eq_true.mp k.no m (List.mem_range.mpr hl)
      rw [hm, Option.isSome_none, Bool.false_or] at this
      exact beq_iff_eq.mp this
  · refine vz hc ?_
    cases z : ci.init with
    | none => exact absurd z hi
    | some f => rfl
  · refine vz hc ?_
    rw [hi]; rfl
  · obtain ⟨ci', y1, y2⟩ := xc c hc
    exact uW X (xF (D.xcs c ci' y1 y2).xf) (xp c hc d hd ci hci).1
  · obtain ⟨ci', y1, y2⟩ := xc c hc
    exact uW X (xF (D.xcs c ci' y1 y2).xf) (D.xcs c ci' y1 y2).kv
  · exact zR X (xp c hc d hd ci hci).2
  · obtain ⟨ci', y1, y2⟩ := xc c hc
    exact (D.xcs c ci' y1 y2).at' X
  · have hp := (List.getElem?_eq_some_iff.mp hf).1
    have ht : T.fts[f]? = some T.fts[f] := List.getElem?_eq_getElem (by omega)
    have k := D.fns f fi _ hf ht
    exact ⟨_, ht, ⟨⟨_, _, X _ _ k.at_, rfl, rfl, k.body, k.scope, k.globals, k.builtins, k.closure, ⟨_, _, _, _, k.cref, X _ _ k.cobj, rfl, k.cnam⟩, k.bind⟩⟩⟩
theorem rZ {P : Params} {h : Heap} {C : Cx} {Z : Nat → Prop} : ∀ {ns : List Int} {vs : List Value}, WellAll P h vs (ns.map fun n => WData.int n) → VRs C Z h (ns.map .int) vs
  | [], _, x => by cases x; exact .nil
  | n :: ns, _, x => by
    cases x with
    | cons hd tl => cases hd; exact .cons (.int _ _) (rZ tl)
theorem vM (ns : List Int) : ofPy (.list (ns.map .int)) = .list (ns.map fun n => WData.int n) := by
  have h : ∀ l : List Int, ofPys (l.map .int) = l.map fun n => WData.int n := fun l => by
    induction l with
    | nil => rfl
    | cons n l ih =>
      show ofPy (.int n) :: ofPys (l.map .int) = _
      rw [ih]; rfl
  show WData.list (ofPys (ns.map .int)) = _
  rw [h]
noncomputable def cv (l : List Stmt) (i : Nat) : List Stmt := match l[i]? with | some (.FunctionDef _ _ body _ _ _ _ _ _ _) => body | _ => []
noncomputable def cw (l : List Stmt) (i : Nat) : Scope := match l[i]? with | some (.FunctionDef _ _ _ _ _ _ sc _ _ _) => sc | _ => default
noncomputable def bx (l : List Stmt) (i : Nat) : List Stmt := match l[i]? with | some (.ClassDef _ _ _ body _ _ _ _ _ _ _) => body | _ => []
theorem yy : bootBuiltins (Str.ofString "int") = some (tyV .int) := by decide +kernel
theorem vN : bootBuiltins (Str.ofString "bool") = some (tyV .bool) := by decide +kernel
theorem oG : bootBuiltins (Str.ofString "tuple") = some (tyV .tuple) := by decide +kernel
theorem vi {C : Cx} : BiOk C true (Str.ofString "len") xj := ⟨⟨_, by decide +kernel, .inl ⟨_, rfl⟩, BK⟩⟩
theorem xU {C : Cx} : BiOk C false (Str.ofString "min") vB := ⟨⟨_, by decide +kernel, .inl ⟨_, rfl⟩, Aq⟩⟩
theorem jg {C : Cx} : BiOk C false (Str.ofString "max") jK := ⟨⟨_, by decide +kernel, .inl ⟨_, rfl⟩, zy⟩⟩
theorem xm {C : Cx} : BiOk C true (Str.ofString "int") vE := ⟨⟨_, by decide +kernel, .inr ⟨_, rfl⟩, zv⟩⟩
noncomputable def AllI {α : Type} (P : Nat → α → Prop) : Nat → List α → Prop
  | _, [] => True
  | n, x :: r => P n x ∧ AllI P (n + 1) r
theorem AllI.get {α : Type} {P : Nat → α → Prop} : ∀ {l : List α} {n : Nat}, AllI P n l → ∀ i x, l[i]? = some x → P (n + i) x := by
  intro l
  induction l with
  | nil => intro n h i x e; cases e
  | cons y r ih =>
    intro n h i x e
    cases i with
    | zero => cases e; exact h.1
    | succ i => have := ih h.2 i x e; rw [show n + 1 + i = n + (i + 1) by omega] at this; exact this
theorem AllI.at0 {α : Type} {P : Nat → α → Prop} {l : List α} (h : AllI P 0 l) (i : Nat) (x : α) (e : l[i]? = some x) : P i x := by
  have := h.get i x e
  rwa [Nat.zero_add] at this
end
end Ap
end
section
namespace Ap
open PySem
section
variable {F : Calls} {ρ : Loc} {σ : St} {Q : PQ} {E : PE} {QQ : QS} {EE : ES} {RL : List AV → St → Prop} {RB : Bool → St → Prop} {K : Bool → Prop} {a b c e : WE} {es : WL} {r : WBl} {cc : AV → WBl} {u v : AV} {vs xs ys : List AV} {i j x y : Int} {s t : Str} {n m f : Nat} {o : O2} {p : O1} {g : ON} {k : OC} {z w : Bool} {A B : WS} {H : WH}
theorem aq (σ : St) (a : Nat) (o : AObj) : upd σ a o a = some o := if_pos rfl
theorem ai (σ : St) {a b : Nat} (o : AObj) (h : b ≠ a) : upd σ a o b = σ b := if_neg h
theorem aT {P : Prg} {d : Nat} {fi : FnI} (h : P.fns[f]? = some fi) (hl : vs.length = fi.arity) (hb : fi.body (wpF P d) (vs.map some ++ List.replicate (fi.nloc - fi.arity) Option.none) σ (kFn Q) (eFn E)) : wpF P (d + 1) f vs σ Q E := ⟨fi, h, hl, hb⟩
theorem yU {G : St → Prop} {B : AV → Loc → St → QS → Prop} (I : Loc → St → Prop) : ∀ (xs : List AV),
    (∀ x ∈ xs, ∀ ρ σ R, I ρ σ → (∀ ρ' σ', I ρ' σ' → R .next ρ' σ') → G σ ∧ B x ρ σ R) → (∀ ρ σ, I ρ σ → G σ ∧ QQ .next ρ σ) → ∀ ρ σ, I ρ σ → forL G B xs ρ σ QQ := by
  intro xs
  induction xs with
  | nil => intro _ h2 ρ σ hi; exact h2 ρ σ hi
  | cons x xs ih => intro h1 h2 ρ σ hi; exact h1 x List.mem_cons_self ρ σ _ hi fun ρ' σ' hi' => ih (fun y hy => h1 y (List.mem_cons_of_mem _ hy)) h2 ρ' σ' hi'
theorem aM : kh Q σ (some v) = Q v σ := rfl
theorem AR : ac n ρ σ Q E = kh Q σ (fJ ρ n) := rfl
theorem e_c : vC v ρ σ Q E = Q v σ := rfl
theorem ap : ar ρ σ RL E = RL [] σ := rfl
theorem an : aa e es ρ σ RL E = e ρ σ (Ca es ρ RL E) E := rfl
theorem ak : Ca es ρ RL E v σ = es ρ σ (Cl v RL) E := rfl
theorem am : Cl v RL vs σ = RL (v :: vs) σ := rfl
theorem dh : et es ρ σ Q E = es ρ σ (Bz Q) E := rfl
theorem cn : Bz Q vs σ = Q (.tup vs) σ := rfl
theorem dz : cU z es ρ σ Q E = es ρ σ (zE z Q) E := rfl
theorem dJ : zE false Q vs σ = Q (.ilist vs) σ := rfl
theorem aX : vO2 o a b ρ σ Q E = a ρ σ (kO1 o b ρ Q E) E := rfl
theorem aC : kO1 o b ρ Q E v σ = b ρ σ (kO2 o v Q) E := rfl
theorem aD : kO2 o u Q v σ = o u v σ Q := rfl
theorem bQ : vO1 p a ρ σ Q E = a ρ σ (kU p Q) E := rfl
theorem bN : kU p Q v σ = p v σ Q := rfl
theorem cH : vON g es ρ σ Q E = es ρ σ (kN g Q) E := rfl
theorem cz : kN g Q vs σ = g vs σ Q := rfl
theorem DQ : zC (.int i) σ Q = Q (.int (-i)) σ := rfl
theorem cm : eX (.bool z) σ Q = Q (.bool (!z)) σ := rfl
theorem fb : vBl r ρ σ Q E = r ρ σ (sM Q) E := rfl
theorem au : sM Q z σ = Q (.bool z) σ := rfl
theorem dC : cV z ρ σ RB E = RB z σ := rfl
theorem aQ : aV z e r ρ σ RB E = e ρ σ (onT (kBl z r ρ RB E)) E := rfl
theorem aG : onT RB (.bool z) σ = RB z σ := rfl
theorem bJ : kBl z r ρ RB E w σ = vU r ρ RB E w (w == z) σ := rfl
theorem bE : vU r ρ RB E z true σ = r ρ σ RB E := rfl
theorem bU : vU r ρ RB E z false σ = RB z σ := rfl
theorem jQ : vU (cV true) ρ RB E z z σ = RB z σ := by cases z <;> rfl
theorem zT : vU (cV false) ρ RB E z (!z) σ = RB z σ := by cases z <;> rfl
theorem bd : bG a cc ρ σ Q E = a ρ σ (Bw cc ρ Q E) E := rfl
theorem aL : Bw cc ρ Q E v σ = cc v ρ σ (sM Q) E := rfl
theorem cJ : bF v ρ σ RB E = RB true σ := rfl
theorem az : aS k e cc v ρ σ RB E = e ρ σ (Ck v k cc ρ RB E) E := rfl
theorem aI : Ck v k cc ρ RB E u σ = k v u σ (wv u cc ρ RB E σ) := rfl
theorem bH : wv u bF ρ RB E σ z = RB z σ := by cases z <;> rfl
theorem bI : wv u cc ρ RB E σ false = RB false σ := rfl
theorem bV : wv u cc ρ RB E σ true = cc u ρ σ RB E := rfl
theorem aR : aZ F f es ρ σ Q E = es ρ σ (yQ F f Q E) E := rfl
theorem aE : yQ F f Q E vs σ = F f vs σ Q E := rfl
theorem mS : tG F n f es ρ σ Q E = es ρ σ (BG F n f Q E) E := rfl
theorem jL : BG F n f Q E vs σ = ∀ a, σ a = Option.none → F f (.obj a :: vs) (upd σ a (.inst n [])) (vg a Q) E := rfl
theorem lw : vg n Q .none σ = Q (.obj n) σ := rfl
theorem eA : fQ F n m f e es ρ σ Q E = e ρ σ (xY F n m f es ρ Q E) E := rfl
theorem cF : uF F f n Q E vs σ = F f (.obj n :: vs) σ Q E := rfl
theorem aH : aw n e ρ σ QQ EE = e ρ σ (CM n ρ QQ) (kE EE ρ) := rfl
theorem bw : CM n ρ QQ v σ = QQ .next (cY ρ n v) σ := rfl
theorem wI : kE EE ρ n σ = EE n ρ σ := rfl
theorem bM : bB a n f e ρ σ QQ EE = e ρ σ (CN a n f ρ QQ EE) (kE EE ρ) := rfl
theorem de : CN a n f ρ QQ EE v σ = a ρ σ (BJ n f v ρ QQ) (kE EE ρ) := rfl
theorem bX : cM e ρ σ QQ EE = e ρ σ (Cg ρ QQ) (kE EE ρ) := rfl
theorem cA : Cg ρ QQ v σ = QQ .next ρ σ := rfl
theorem bA : bP e ρ σ QQ EE = e ρ σ (BS ρ QQ) (kE EE ρ) := rfl
theorem aN : BS ρ QQ v σ = QQ (.ret v) ρ σ := rfl
theorem bh : bY c A B ρ σ QQ EE = c ρ σ (onT (brS A B ρ QQ EE)) (kE EE ρ) := rfl
theorem bv : brS A B ρ QQ EE true σ = A ρ σ QQ EE := rfl
theorem bg : brS A B ρ QQ EE false σ = B ρ σ QQ EE := rfl
theorem dP : dW n ρ σ QQ EE = EE n ρ σ := rfl
theorem xe : wt A H ρ σ QQ EE = A ρ σ QQ (BW H QQ EE) := rfl
theorem pd : BW H QQ EE n ρ σ = H n ρ σ QQ EE := rfl
theorem CA : brH n m A H ρ σ QQ EE true = A (cY ρ m (.exn n)) σ (kH QQ) zc := rfl
theorem FM : kH QQ (.ret v) ρ σ = QQ (.ret v) [] σ := rfl
theorem wW : yg n e A ρ σ QQ EE = e ρ σ (ze n A ρ QQ EE) (kE EE ρ) := rfl
theorem iq : nh n A EE v ρ σ QQ = A (cY ρ n v) σ QQ EE := rfl
theorem bc : ay ρ σ QQ EE = QQ .next ρ σ := rfl
theorem ag : ad A B ρ σ QQ EE = A ρ σ (vL B QQ EE) EE := rfl
theorem aj : vL A QQ EE .next ρ σ = A ρ σ QQ EE := rfl
theorem aF : vL A QQ EE (.ret v) ρ σ = QQ (.ret v) ρ σ := rfl
theorem jt : kFn Q .next ρ σ = Q .none σ := rfl
theorem aO : kFn Q (.ret v) ρ σ = Q v σ := rfl
theorem kg : eFn E n ρ σ = E n σ := rfl
theorem oj {go : Loc → St → QS → Prop} : kFL go QQ .next ρ σ = go ρ σ QQ := rfl
theorem ez {a : Option AV} {r : Loc} : cY (a :: r) 0 v = some v :: r := rfl
theorem eD {a : Option AV} {r : Loc} : cY (a :: r) (n + 1) v = a :: cY r n v := rfl
theorem yT {a : Option AV} {r : Loc} : fJ (a :: r) 0 = a := rfl
theorem yK {a : Option AV} {r : Loc} : fJ (a :: r) (n + 1) = fJ r n := rfl
theorem gj : (z == true) = z := by cases z <;> rfl
theorem fc : (z == false) = !z := by cases z <;> rfl
theorem cP : (!true) = false := rfl
theorem dr : (!false) = true := rfl
theorem cf : bZ (.int x) (.int y) σ Q = Q (.int (x + y)) σ := rfl
theorem dL : dZ (.int x) (.int y) σ Q = Q (.int (x - y)) σ := rfl
theorem AY : we (.int x) (.int y) σ Q = ((x.natAbs < 2 ^ 63 ∨ y.natAbs < 2 ^ 63) ∧ Q (.int (x * y)) σ) := rfl
theorem bR : bK (.int x) (.int y) σ Q = (y ≠ 0 ∧ Q (.int (x.fmod y)) σ) := rfl
theorem bS : bC (.int x) (.int y) σ Q = ((y ≠ 0 ∧ y.natAbs < 1073741824) ∧ Q (.int (x.fdiv y)) σ) := rfl
theorem rL : fN (.str s) (.str t) σ Q = (s.length + t.length ≤ 1000000 ∧ Q (.str (s ++ t)) σ) := rfl
theorem bD : bO (.tup xs) (.int i) σ Q = (0 ≤ i ∧ kh Q σ xs[i.toNat]?) := rfl
theorem i_l : di (.ilist xs) (.int i) σ Q = (0 ≤ i ∧ kh Q σ xs[i.toNat]?) := rfl
theorem Fm : oSl false n m (.ilist xs) σ Q = Q (.ilist ((xs.take m).drop n)) σ := rfl
theorem wp : cLt (.int x) (.int y) σ K = K (decide (x < y)) := rfl
theorem pJ : cLe (.int x) (.int y) σ K = K (decide (x ≤ y)) := rfl
theorem pH : cGt (.int x) (.int y) σ K = K (decide (x > y)) := rfl
theorem BE : cGe (.int x) (.int y) σ K = K (decide (x ≥ y)) := rfl
theorem BN {p q : PyData} (h1 : rd 8 σ u = some p) (h2 : rd 8 σ v = some q) : cEq u v σ K = K (PyData.eqv p q) := propext ⟨fun ⟨p', q', e1, e2, h⟩ => by rw [h1] at e1; rw [h2] at e2; cases e1; cases e2; exact h, fun h => ⟨_, _, h1, h2, h⟩⟩
theorem CK {p q : PyData} (h1 : rd 8 σ u = some p) (h2 : rd 8 σ v = some q) : cNe u v σ K = K (!PyData.eqv p q) := propext ⟨fun ⟨p', q', e1, e2, h⟩ => by rw [h1] at e1; rw [h2] at e2; cases e1; cases e2; exact h, fun h => ⟨_, _, h1, h2, h⟩⟩
theorem iO : cEq (.int x) (.int y) σ K = K (x == y) := BN (p := .int x) (q := .int y) rfl rfl
theorem yp : xj [.ilist xs] σ Q = Q (.int xs.length) σ := propext ⟨fun ⟨_, e, h⟩ => by cases e; exact h, fun h => ⟨_, rfl, h⟩⟩
theorem CP {a b c : Int} : vB [.int a, .int b, .int c] σ Q = Q (.int (if b < a then (if c < b then c else b) else (if c < a then c else a))) σ := propext ⟨fun ⟨_, _, _, e, h⟩ => by cases e; exact h, fun h => ⟨_, _, _, rfl, h⟩⟩
theorem jI : jK [.int x, .int y] σ Q = Q (.int (if y > x then y else x)) σ := propext ⟨fun ⟨_, _, e, h⟩ => by cases e; exact h, fun h => ⟨_, _, rfl, h⟩⟩
theorem CE : vE [.bool z] σ Q = Q (.int (if z then 1 else 0)) σ := propext ⟨fun ⟨_, e, h⟩ => by cases e; exact h, fun h => ⟨_, rfl, h⟩⟩
theorem iU {t : Ty} (h : cq v = true) : ng t v σ Q = Q (.bool (kn t v)) σ := propext ⟨fun h => h.2, fun q => ⟨h, q⟩⟩
theorem Ci {cs : List ClsI} {ci : ClsI} (h : cs[n]? = some ci) : sQ cs m (.exn n) σ Q = Q (.bool (ci.sups.contains m)) σ := propext ⟨fun ⟨_, _, e1, e2, q⟩ => by cases e1; rw [h] at e2; cases e2; exact q, fun q => ⟨_, _, rfl, h, q⟩⟩
theorem Ab {cs : List ClsI} {ci : ClsI} {d : Nat} (h : cs[n]? = some ci) : xE cs d m A H n ρ σ QQ EE = brH n m A H ρ σ QQ EE (ci.sups.contains d) := propext ⟨fun ⟨_, e, q⟩ => by rw [h] at e; cases e; exact q, fun q => ⟨_, h, q⟩⟩
theorem Bi : ze n A ρ QQ EE (.ilist xs) σ = forL (im (.ilist xs) xs) (nh n A EE) xs ρ σ QQ := propext ⟨fun ⟨_, e, q⟩ => by cases e; exact q, fun q => ⟨_, rfl, q⟩⟩
theorem dD {fs : List (Nat × AV)} {a c : Nat} (h : σ a = some (.inst c fs)) (h' : aW fs m = Option.none) : xY F c m f es ρ Q E (.obj a) σ = es ρ σ (uF F f a Q E) E := propext ⟨fun ⟨_, _, e, _, _, q⟩ => by cases e; exact q, fun q => ⟨_, _, rfl, h, h', q⟩⟩
theorem bf {fs : List (Nat × AV)} {a c : Nat} (h : σ a = some (.inst c fs)) (h' : aW fs f = some v) : bq c f (.obj a) σ Q = Q v σ := propext ⟨fun ⟨_, _, _, e, e1, e2, q⟩ => by cases e; rw [h] at e1; cases e1; rw [h'] at e2; cases e2; exact q, fun q => ⟨_, _, _, rfl, h, h', q⟩⟩
theorem cD {fs : List (Nat × AV)} {a c : Nat} (h : σ a = some (.inst c fs)) (h' : fs.length < 100) : BJ c f v ρ QQ (.obj a) σ = QQ .next ρ (upd σ a (.inst c (co f v fs))) := propext ⟨fun ⟨_, _, e, e1, _, q⟩ => by cases e; rw [h] at e1; cases e1; exact q, fun q => ⟨_, _, rfl, h, h', q⟩⟩
end
end Ap
end
section
set_option genSizeOf false
namespace Ap
open PySem PySem.Calls PyProof.Rows
noncomputable abbrev OM := AV → List AV → St → PQ → Prop
noncomputable def Cy (f : OM) (v : AV) (Q : PQ) : List AV → St → Prop := fun vs σ => f v vs σ Q
noncomputable def kBm (rc : AV → St → Prop) (f : OM) (es : WL) (ρ : Loc) (Q : PQ) (E : PE) : PQ := fun v σ => rc v σ ∧ es ρ σ (Cy f v Q) E
noncomputable def vBm (rc : AV → St → Prop) (f : OM) (e : WE) (es : WL) : WE := fun ρ σ Q E => e ρ σ (kBm rc f es ρ Q E) E
structure BmOk (C : Cx) (q : Bool) (name : Str) (rc : AV → St → Prop) (f : OM) : Prop where
  ex : ∃ T id, (PlainAttrs T ∧ Slot T name id ∧ typeOf (.builtin id) = pure (.type "method_descriptor")) ∧
    (∀ envs σ ow s v u, Good C envs σ ow s → VR C (Zs σ ow (zss envs)) s.heap v u → rc v σ → s.TypeIs u T ∧ ∀ a, u = .ref a → ∃ ob, s.heap.get? a = some ob ∧ ob.dict = Option.none) ∧
    ∀ (A : Around) envs σ ow s (Qa : PQ) (Q : Value → Shared → Prop) E v u vs vals, (q = false → A.handled = Option.none) → Good C envs σ ow s → KV C envs σ ow s (RV C) Qa Q → VR C (Zs σ ow (zss envs)) s.heap v u → VRs C (Zs σ ow (zss envs)) s.heap vs vals → f v vs σ Qa → wpAny (model C.prog C.w) A (call (.builtin id) (u :: vals)) Q E s
section
variable {C : Cx} {T : Tabs} {P : Prg} {d : Nat} {sc : Scope} {nms : List Str} {q : Bool}
theorem Both.bm {q' : Bool} {rc : AV → St → Prop} {f : OM} {n : Str} {e : WE} {o : Expr} {es : WL} {xs : List Expr} {apos pos : Pos} (hb : BmOk C q' n rc f) (he : Both C d sc nms q e o) (h : BothL C d sc nms q es xs) (hp : fg o = true)
    (hline : (apos.endLine == pos.line) = true) (hlen : xs.length < 20) (hq : q' = false → q = false) : Both C d sc nms q (vBm rc f e es) (.Call (.Attribute o n apos) xs [] pos) :=
  .of rfl fun A env envs ρ hs ha σ ow s Qa Ea Q E w ok kv kx => by
    obtain ⟨T, id, ⟨pa, sl, ty⟩, h1, h2⟩ := hb.ex
    refine wpAny_Call_method (ln hp) ?_ hline pa sl ty (he.ev A env envs ρ hs ha σ ow s _ Ea _ E w ok (fun u v σ' ow' s' z st g r => ?_) kx)
    · rw [lz h.stars]
      show (true && true && decide (xs.length + 0 + 0 < 30)) = true
      rw [Bool.and_self, Bool.true_and, decide_eq_true_eq]
      omega
    · obtain ⟨t1, t2⟩ := h1 envs σ' ow' s' v u g r z.1
      refine ⟨t1, t2, callWith_builtin (cW h.stars) (cI h.stars (h.snd hs ha σ' ow' s' _ Ea _ E z.2 (ok.stp st g) (fun vs avs σ'' ow'' s'' z' st' g' r' => ?_) (kx.stp st g)))⟩
      refine h2 A envs σ'' ow'' s'' _ _ _ _ _ _ _ (fun e => ?_) g' ((kv.stp st).stp st') (st'.vr r) r'.1 z'
      have := hq e
      subst this
      exact ok.hnd.none
noncomputable def rcL : AV → St → Prop := fun v σ => ∃ a xs, v = .obj a ∧ σ a = some (.list xs)
noncomputable def cb : OM := fun v vs σ Q => ∃ a xs x, v = .obj a ∧ vs = [x] ∧ σ a = some (.list xs) ∧ xs.length ≤ 1000000 ∧ Q .none (upd σ a (.list (xs ++ [x])))
theorem dc : BmOk C true (Str.ofString "append") rcL cb := by
  refine ⟨⟨"list", "list.append", ⟨F.plainAttrs_list, slot_list_append, type_list_append⟩, fun envs σ ow s v u g r w => ?_, fun A envs σ ow s Qa Q E v u vs vals hq g k r rs w => ?_⟩⟩
  · obtain ⟨a, xs, rfl, e⟩ := w
    cases r
    obtain ⟨us, ⟨_, n, e1⟩, _⟩ := g.store _ _ e
    exact ⟨⟨_, e1, rfl⟩, fun b hb => by cases hb; exact ⟨_, e1, rfl⟩⟩
  · obtain ⟨a, xs, x, rfl, rfl, e, hl, w⟩ := w
    cases r
    cases rs with | cons r1 r2 =>
    cases r2
    obtain ⟨us, ⟨hz, n, e1⟩, r⟩ := g.store _ _ e
    have hlen := r.length
    refine append_at (hsz := by rw [List.size_toArray]; unfold sizeLine; omega) e1 fun h' hs hD => ?_
    have kp : ∀ b ob, b ≠ a → s.heap.get? b = some ob → h'.get? b = some ob := fun b ob nb e => (hs.2 b nb).trans e
    have st := Stp.change (o := .list (xs ++ [x])) g e (.inl rfl) kp s.toks
    rename_i y
    have hD' : h'.get? a = some (rV (us ++ [y]) (n + 1)) := by rw [hD]; simp
    exact k _ _ _ ow _ w st (g.change (o := .list (xs ++ [x])) e (.inl rfl) kp (by rw [hD']; rfl) ⟨us ++ [y], ⟨by rw [List.length_append]; simp; omega, _, hD'⟩, VRs.append (.cons (st.vr r1) .nil) (st.vrs r)⟩ s.toks) .none
variable {κ : Type} [DecidableEq κ] {Z : Nat → Prop} {h : Heap}
inductive DP (C : Cx) (Z : Nat → Prop) (h : Heap) {κ : Type} : List (κ × AV) → List (κ × Value) → Prop
  | nil : DP C Z h [] []
  | cons {k : κ} {v : AV} {u : Value} {es : List (κ × AV)} {kvs : List (κ × Value)} : VR C Z h v u → DP C Z h es kvs → DP C Z h ((k, v) :: es) ((k, u) :: kvs)
theorem qh : ∀ {es : List (κ × AV)} {kvs : List (κ × Value)}, kvs.map (·.1) = es.map (·.1) → VRs C Z h (es.map (·.2)) (kvs.map (·.2)) → DP C Z h es kvs
  | [], [], _, _ => .nil
  | [], _ :: _, e, _ => by simp at e
  | _ :: _, [], e, _ => by simp at e
  | (k, v) :: es, (k', u) :: kvs, e, r => by
    simp only [List.map_cons, List.cons.injEq] at e r
    obtain ⟨rfl, e⟩ := e
    cases r with
    | cons hd tl => exact .cons hd (qh e tl)
theorem DP.keys {es : List (κ × AV)} {kvs : List (κ × Value)} (x : DP C Z h es kvs) : kvs.map (·.1) = es.map (·.1) := by
  induction x with
  | nil => rfl
  | cons _ _ ih => simp [ih]
theorem DP.vals {es : List (κ × AV)} {kvs : List (κ × Value)} (x : DP C Z h es kvs) : VRs C Z h (es.map (·.2)) (kvs.map (·.2)) := by
  induction x with
  | nil => exact .nil
  | cons r _ ih => exact .cons r ih
theorem DP.length {es : List (κ × AV)} {kvs : List (κ × Value)} (x : DP C Z h es kvs) : kvs.length = es.length := by
  induction x with
  | nil => rfl
  | cons r _ ih => exact congrArg Nat.succ ih
theorem DP.look {es : List (κ × AV)} {kvs : List (κ × Value)} (x : DP C Z h es kvs) (k : κ) : (∀ v, aW es k = some v → ∃ u, valueAt kvs k = some u ∧ VR C Z h v u) ∧ (aW es k = Option.none → valueAt kvs k = Option.none) := by
  induction x with
  | nil => exact ⟨fun v e => by simp [aW] at e, fun _ => rfl⟩
  | @cons k' v u es kvs r _ ih =>
    by_cases q : k' = k
    · refine ⟨fun v' e => ?_, fun e => ?_⟩
      · simp only [aW, List.find?_cons, q, decide_true, Option.map_some, Option.some.injEq] at e
        subst e
        exact ⟨u, by simp [valueAt, List.find?_cons, q], r⟩
      · simp [aW, List.find?_cons, q] at e
    · have e1 : aW ((k', v) :: es) k = aW es k := by simp [aW, List.find?_cons, q]
      have e2 : valueAt ((k', u) :: kvs) k = valueAt kvs k := by simp [valueAt, List.find?_cons, q]
      rw [e1, e2]
      exact ih
theorem DP.has {es : List (κ × AV)} {kvs : List (κ × Value)} (x : DP C Z h es kvs) (k : κ) : (valueAt kvs k).isSome = jT es k := by
  unfold jT
  cases e : aW es k with
  | none => rw [(x.look k).2 e]; rfl
  | some v => obtain ⟨u, e', _⟩ := (x.look k).1 v e; rw [e']; rfl
theorem DP.any {es : List (κ × AV)} {kvs : List (κ × Value)} (x : DP C Z h es kvs) (k : κ) : kvs.any (fun kv => kv.1 = k) = es.any (fun kv => kv.1 = k) := by
  induction x with
  | nil => rfl
  | cons _ _ ih => simp only [List.any_cons, ih]
theorem DP.map {es : List (κ × AV)} {kvs : List (κ × Value)} (x : DP C Z h es kvs) (k : κ) {v : AV} {u : Value} (r : VR C Z h v u) : DP C Z h (es.map (fun e => if e.1 = k then (e.1, v) else e)) (kvs.map (fun e => if e.1 = k then (e.1, u) else e)) := by
  induction x with
  | nil => exact .nil
  | @cons k' v' u' es kvs r' _ ih =>
    by_cases q : k' = k
    · subst q; simpa using DP.cons r ih
    · simpa [q] using DP.cons r' ih
theorem DP.snoc {es : List (κ × AV)} {kvs : List (κ × Value)} (x : DP C Z h es kvs) (k : κ) {v : AV} {u : Value} (r : VR C Z h v u) : DP C Z h (es ++ [(k, v)]) (kvs ++ [(k, u)]) := by
  induction x with
  | nil => exact .cons r .nil
  | cons r' _ ih => exact .cons r' ih
theorem DP.put {es : List (κ × AV)} {kvs : List (κ × Value)} (x : DP C Z h es kvs) (k : κ) {v : AV} {u : Value} (r : VR C Z h v u) : DP C Z h (co k v es) (stored kvs k u) := by
  unfold co stored
  rw [x.any k]
  split
  · exact x.map k r
  · exact x.snoc k r
theorem DP.del {es : List (κ × AV)} {kvs : List (κ × Value)} (x : DP C Z h es kvs) (k : κ) : DP C Z h (eY k es) (without kvs k) := by
  unfold eY without
  induction x with
  | nil => exact .nil
  | @cons k' v' u' es kvs r' _ ih =>
    by_cases q : k' = k
    · simpa [q] using ih
    · simpa [q] using DP.cons r' ih
theorem DP.kp {Z' : Nat → Prop} {h' : Heap} (k : Kp Z h h') (g : Zg Z Z' h) {es : List (κ × AV)} {kvs : List (κ × Value)} (x : DP C Z h es kvs) : DP C Z' h' es kvs := by
  induction x with
  | nil => exact .nil
  | cons r _ ih => exact .cons (r.kp k g) ih
structure DK (C : Cx) (κ : Type) [DecidableEq κ] where
  knd : KeyKind C.prog C.w κ
  key : κ → AV
  ob : List (κ × AV) → AObj
  is : ∀ {Z h k u}, VR C Z h (key k) u → knd.is k u = true
  part : ∀ {Z h k u}, VR C Z h (key k) u → (keyPart u).isSome = true
  get : ∀ {Z ow h a es}, ORep C Z ow h a (ob es) → ∃ kvs, h.DictOf knd a kvs ∧ (a == sysModules) = false ∧ kvs.map (·.1) = es.map (·.1) ∧ VRs C Z h (es.map (·.2)) (kvs.map (·.2))
  put : ∀ {Z ow h a es kvs}, h.DictOf knd a kvs → (a == sysModules) = false → DP C Z h es kvs → ORep C Z ow h a (ob es)
noncomputable def dkI (C : Cx) : DK C Int where
  knd := intKind C.prog C.w
  key := .int
  ob := .dictI
  is := fun r => by cases r; exact intKind_is _ _ _ _
  part := fun r => by cases r; rfl
  get := fun r => r
  put := fun a b c => ⟨_, a, b, c.keys, c.vals⟩
noncomputable def dkS (C : Cx) : DK C Str where
  knd := strKind C.prog C.w
  key := .str
  ob := .dictS
  is := fun r => by cases r; exact strKind_is _ _ _ _
  part := fun r => by cases r; rfl
  get := fun r => r
  put := fun a b c => ⟨_, a, b, c.keys, c.vals⟩
noncomputable def AS {κ : Type} [DecidableEq κ] (key : κ → AV) (ob : List (κ × AV) → AObj) : O2 := fun a b σ Q => ∃ l es k v, a = .obj l ∧ b = key k ∧ σ l = some (ob es) ∧ aW es k = some v ∧ Q v σ
noncomputable def DD {κ : Type} [DecidableEq κ] (key : κ → AV) (ob : List (κ × AV) → AObj) : OC := fun a b σ K => ∃ l es k, b = .obj l ∧ a = key k ∧ σ l = some (ob es) ∧ K (jT es k)
noncomputable def AT {κ : Type} [DecidableEq κ] (key : κ → AV) (ob : List (κ × AV) → AObj) : OC := fun a b σ K => ∃ l es k, b = .obj l ∧ a = key k ∧ σ l = some (ob es) ∧ K (!jT es k)
noncomputable def An {κ : Type} [DecidableEq κ] (key : κ → AV) (ob : List (κ × AV) → AObj) (v u : AV) (ρ : Loc) (Q : QS) : PQ := fun kk σ => ∃ a es k, u = .obj a ∧ kk = key k ∧ σ a = some (ob es) ∧ es.length ≤ 1000000 ∧ Q .next ρ (upd σ a (ob (co k v es)))
noncomputable def Cv {κ : Type} [DecidableEq κ] (key : κ → AV) (ob : List (κ × AV) → AObj) (i : WE) (v : AV) (ρ : Loc) (Q : QS) (E : ES) : PQ := fun u σ => i ρ σ (An key ob v u ρ Q) (kE E ρ)
noncomputable def zW {κ : Type} [DecidableEq κ] (key : κ → AV) (ob : List (κ × AV) → AObj) (o i : WE) (ρ : Loc) (Q : QS) (E : ES) : PQ := fun v σ => o ρ σ (Cv key ob i v ρ Q E) (kE E ρ)
noncomputable def nK {κ : Type} [DecidableEq κ] (key : κ → AV) (ob : List (κ × AV) → AObj) (o i e : WE) : WS := fun ρ σ Q E => e ρ σ (zW key ob o i ρ Q E) (kE E ρ)
noncomputable def rcD : AV → St → Prop := fun v σ => ∃ a es, v = .obj a ∧ σ a = some (.dictI es)
noncomputable def sR : OM := fun v vs σ Q => ∃ a es k x, v = .obj a ∧ vs = [.int k] ∧ σ a = some (.dictI es) ∧ aW es k = some x ∧ es.length ≤ 1000000 ∧ Q x (upd σ a (.dictI (eY k es)))
noncomputable def vH : WE := fun _ σ Q _ => ∀ a, σ a = Option.none → Q (.obj a) (upd σ a (.dictI []))
theorem DictOf.clsn {prog : Program} {w : World} {knd : KeyKind prog w κ} {a : Addr} {kvs : List (κ × Value)} (x : h.DictOf knd a kvs) : ∃ o, h.get? a = some o ∧ o.cls = .type "dict" ∧ o.dict = Option.none := by
  obtain ⟨o, es, ep, e, hc, _⟩ := x
  exact ⟨o, e, hc.1, hc.2.1⟩
theorem Ed (D : DK C κ) : iw C (AS D.key D.ob) := by
  intro A envs σ ow s Qa Q E va vb a b value slice hp g k ra rb w
  obtain ⟨l, es, kk, v, rfl, rfl, e, hv, w⟩ := w
  cases ra
  obtain ⟨kvs, at_, ne, ks, r⟩ := D.get (g.store _ _ e)
  obtain ⟨u, e', r'⟩ := ((qh ks r).look _).1 v hv
  exact tail_any at_.typeIs slot_dict_getitem.lookup (wpAny_getItem_of (D.is rb) at_.mapOf e' (k.val g _ w r')) (hp _ _)
theorem AK (D : DK C κ) : CmpSnd C .In (DD D.key D.ob) := by
  intro A envs σ ow s K Q E va vb a b hu g ra rb w k
  obtain ⟨l, es, kk, rfl, rfl, e, w⟩ := w
  cases rb
  obtain ⟨kvs, at_, ne, ks, r⟩ := D.get (g.store _ _ e)
  exact wpAny_in_of (D.is ra) ne at_.mapOf (k _ _ (by rw [(qh ks r).has]; exact w))
theorem xl (D : DK C κ) : CmpSnd C .NotIn (AT D.key D.ob) := by
  intro A envs σ ow s K Q E va vb a b hu g ra rb w k
  obtain ⟨l, es, kk, rfl, rfl, e, w⟩ := w
  cases rb
  obtain ⟨kvs, at_, ne, ks, r⟩ := D.get (g.store _ _ e)
  exact wpAny_notIn_of (D.is ra) ne at_.mapOf (k _ _ (by rw [(qh ks r).has]; exact w))
theorem BothS.setItem (D : DK C κ) {o i e : WE} {ov iv v : Expr} {np pos : Pos} (ho : Both C d sc nms q o ov) (hi : Both C d sc nms q i iv) (he : Both C d sc nms q e v) (hc : fn v = true) :
    BothS C d sc nms q (nK D.key D.ob o i e) (.Assign [.Subscript ov iv np] v pos) where
  snd := fun A env V outer hF hs ha ρ σ ow s Qa Ea Q E w k ks kx => by
    refine wpAny_Assign_Subscript (he.ev A env V ρ hs ha σ ow s _ _ _ E w k.ok (fun u av σ' ow' s' z st g r => ?_) (kx.toE hF k)) (lJ hc)
    have k' := k.stp hF st g
    refine ho.ev A env V ρ hs ha σ' ow' s' _ _ _ E z k'.ok (fun u2 av2 σ₂ ow₂ s₂ z₂ st₂ g₂ r₂ => ?_) ((kx.stp st.toS g).toE hF k')
    have k₂ := k'.stp hF st₂ g₂
    refine hi.ev A env V ρ hs ha σ₂ ow₂ s₂ _ _ _ E z₂ k₂.ok (fun u3 av3 σ₃ ow₃ s₃ z₃ st₃ g₃ r₃ => ?_) (((kx.stp st.toS g).stp st₂.toS g₂).toE hF k₂)
    obtain ⟨a, es, kk, rfl, rfl, hσ, hl, z₃⟩ := z₃
    cases r₂
    obtain ⟨kvs, at_, ne, kse, rr⟩ := D.get (g₃.store _ _ hσ)
    have dp := qh kse rr
    have hlen := dp.length
    refine wpAny_setItem_pairs (hsz := by unfold sizeLine; omega) (D.is r₃) at_ fun h' hm hsb => ?_
    have kp : ∀ b ob, b ≠ a → s₃.heap.get? b = some ob → h'.get? b = some ob := fun b ob nb e => (hsb.2 b nb).trans e
    have st₄ := Stp.change (o := D.ob (co kk av es)) g₃ hσ (.inl rfl) kp (s₃.toks + 1)
    have hlv : (h'.get? a).isSome = true := by obtain ⟨o, e, _⟩ := DictOf.clsn hm; rw [e]; rfl
    have dp' : DP C (Zs (upd σ₃ a (D.ob (co kk av es))) ow₃ (zss V)) h' (co kk av es) (stored kvs kk u) := DP.put (dp.kp (st₄.kp V.sub) st₄.zg) kk (st₄.vr (st₃.vr (st₂.vr r)))
    have g₄ := g₃.change (o := D.ob (co kk av es)) hσ (.inl rfl) kp hlv (D.put hm ne dp') (s₃.toks + 1)
    exact ks _ _ ρ _ ow₃ _ z₃ (((st.trans st₂).trans st₃).trans st₄).toS ((k₂.stp hF st₃ g₃).stp hF st₄ g₄) .next
theorem xN : BmOk C true (Str.ofString "pop") rcD sR := by
  refine ⟨⟨"dict", "dict.pop", ⟨F.plainAttrs_dict, F.slot_dict_pop, F.type_dict_pop⟩, fun envs σ ow s v u g r w => ?_, fun A envs σ ow s Qa Q E v u vs vals hq g k r rs w => ?_⟩⟩
  · obtain ⟨a, es, rfl, e⟩ := w
    cases r
    obtain ⟨kvs, at_, _⟩ := (dkI C).get (g.store _ _ e)
    obtain ⟨o, e1, e2, e3⟩ := DictOf.clsn at_
    exact ⟨⟨_, e1, e2⟩, fun b hb => by cases hb; exact ⟨_, e1, e3⟩⟩
  · obtain ⟨a, es, kk, x, rfl, rfl, e, hx, hl, w⟩ := w
    cases r
    cases rs with | cons r1 r2 =>
    cases r2
    obtain ⟨kvs, at_, ne, kse, rr⟩ := (dkI C).get (g.store _ _ e)
    have dp := qh kse rr
    have hlen := dp.length
    obtain ⟨u, e', r'⟩ := (dp.look _).1 x hx
    refine call_meetsIn F.slot_dict_pop at_.typeIs F.entry_dict_pop (F.args_dict_pop_2 _ _) (meets_dict_pop_there (dkI C).knd _ ((dkI C).is r1) [] (.inl rfl) ((dkI C).part r1)) ⟨kvs, u, at_, by unfold sizeLine; omega, e', fun h' hm hsb => ?_⟩
    have kp : ∀ b ob, b ≠ a → s.heap.get? b = some ob → h'.get? b = some ob := fun b ob nb e => (hsb.2 b nb).trans e
    have st := Stp.change (o := .dictI (eY kk es)) g e (.inl rfl) kp (s.toks + 1)
    have hlv : (h'.get? a).isSome = true := by obtain ⟨o, e, _⟩ := DictOf.clsn hm; rw [e]; rfl
    have dp' : DP C (Zs (upd σ a (.dictI (eY kk es))) ow (zss envs)) h' (eY kk es) (without kvs kk) := DP.del (dp.kp (st.kp envs.sub) st.zg) kk
    exact k _ _ _ ow _ w st (g.change (o := .dictI (eY kk es)) e (.inl rfl) kp hlv ((dkI C).put hm ne dp') (s.toks + 1)) (st.vr r')
theorem Both.dctI {pos : Pos} (X : CxOk C T P) : Both C d sc nms q vH (.Dict [] [] pos) :=
  .of rfl fun A env envs ρ hs ha σ ow s Qa Ea Q E w ok kv kx => by
    refine wpAny_Dict_empty ?_
    have qq : ∀ b o', s.heap.get? b = some o' → (s.heap.push { cls := .type "dict", data := .dict #[] }).get? b = some o' := fun _ _ e => Heap.get?_push_of_some _ e
    have na : s.heap.get? s.heap.objs.size = Option.none := Heap.fresh _
    have big := ok.good.big X
    refine kv _ _ _ ow _ (w s.heap.objs.size ok.good.new.1) (Stp.alloc qq na s.toks) (ok.good.alloc (o := .dictI []) qq na ok.good.new.2.2 (Heap.get?_push_size _ rfl) ((dkI C).put (Heap.DictOf.new _) ?_ .nil) s.toks) (.obj _)
    exact beq_eq_false_iff_ne.mpr (fun e => by have : s.heap.objs.size = sysModules := e; rw [this] at big; exact absurd big (by decide))
end
end Ap
end
section
set_option genSizeOf false
namespace Ap
open PySem PySem.Calls PyProof.Rows
noncomputable abbrev WX := Loc → St → (List AV → (St → Prop) → St → Prop) → PE → Prop
noncomputable def kXL (K : List AV → (St → Prop) → St → Prop) : PQ := fun v σ => ∃ xs, dm σ v = some xs ∧ K xs (im v xs) σ
noncomputable def yF (e : WE) : WX := fun ρ σ K E => e ρ σ (kXL K) E
noncomputable def Dh : List AV → Option (Int × Int)
  | [.int b] => some (0, b)
  | [.int a, .int b] => some (a, b)
  | _ => Option.none
noncomputable def gp (a b : Int) : List AV := (List.range (b - a).toNat).map fun (k : Nat) => .int (a + k)
noncomputable def kXR (K : List AV → (St → Prop) → St → Prop) : List AV → St → Prop := fun vs σ => ∃ a b, Dh vs = some (a, b) ∧ (a.natAbs < 2 ^ 60 ∧ b.natAbs < 2 ^ 60 ∧ b - a ≤ 1000000) ∧ K (gp a b) (fun _ => True) σ
noncomputable def kC (es : WL) : WX := fun ρ σ K E => es ρ σ (kXR K) E
noncomputable def wZ (x : Nat) (body : WS) (ρ : Loc) (Q : QS) (E : ES) : List AV → (St → Prop) → St → Prop := fun xs G σ => forL G (nh x body E) xs ρ σ Q
noncomputable def qf (x : Nat) (src : WX) (body : WS) : WS := fun ρ σ Q E => src ρ σ (wZ x body ρ Q E) (kE E ρ)
structure SrcI (C : Cx) (A : Around) (q : Bool) (target : Expr) (I : Addr) (wr : List Addr) (xs : List AV) (G : St → Prop) (inv : Vo → Nat → St → (Nat → Option Nat) → Shared → Prop) : Prop where
  it : ∀ V, It C A q target V I wr xs G (inv V)
  wide : ∀ V ex i σ ow s h' t, inv V i σ ow s → (∀ b ∈ ex, s.heap.get? b = Option.none) → (∀ b o, s.heap.get? b = some o → h'.get? b = some o) → inv (V.plus ex) i σ ow { s with heap := h', toks := t }
structure SrcE (C : Cx) (d : Nat) (sc : Scope) (nms : List Str) (q : Bool) (target iter : Expr) (w : WX) : Prop where
  snd : ∀ A env V ρ, env.scope = sc → AOk A V d → ∀ σ ow s K Ea (Q : Value → Shared → Prop) E, w ρ σ K Ea → Ok C A q env V nms ρ σ ow s → KX C V σ ow s Ea E →
    (∀ I wr xs G inv σ' ow' s', K xs G σ' → SrcI C A q target I wr xs G inv → Stp (frs V) (Own σ ow) (Own σ' ow') s s' → Ok C A q env (V.plus wr) nms ρ σ' ow' s' → inv V 0 σ' ow' s' → (∀ b ∈ wr, s.heap.get? b = Option.none) → xs.length ≤ 16777216 → Q (.ref I) s') →
    wpAny (model C.prog C.w) A (eval iter env) (fun x s₁ => wpAny (model C.prog C.w) A (pyIter x) Q E s₁) E s
section
variable {C : Cx} {T : Tabs} {P : Prg} {d : Nat} {sc : Scope} {nms : List Str} {q : Bool} {A : Around} {V : Vo} {σ σ' : St} {ow ow' : Nat → Option Nat} {s s' : Shared}
theorem pt {ex wr : List Addr} {h : Heap} (fr : ∀ b ∈ ex, h.get? b = Option.none) : Zg (Zs σ ow (zss (V.plus wr))) (Zs σ ow (zss ((V.plus ex).plus wr))) h := fun b z => by
  rcases z with z | z
  · exact .inl (.inl z)
  · rcases Vo.plus_mem z with z | z
    · rcases Vo.plus_mem z with z | z
      · exact .inl (.inr (Vo.plus_sub b z))
      · exact .inr (fr b z)
    · exact .inl (.inr (Vo.plus_wr z))
theorem SrcI.ilist {target : Expr} {I ax : Addr} {vs : List Value} {xs : List AV} {G : St → Prop} : SrcI C A q target I [I] xs G (fun V => EY C V I ax vs xs) where
  it := fun V => It.ilist
  wide := fun V ex i σ ow s h' t h fr gr => by
    obtain ⟨⟨o, e1, e2, e3⟩, ⟨hz, n, e4⟩, r, nz⟩ := h
    have zg := pt (V := V) (wr := [I]) (σ := σ) (ow := ow) fr
    exact ⟨⟨o, gr _ _ e1, e2, e3⟩, ⟨hz, n, gr _ _ e4⟩, r.kp (fun b o e _ => gr b o e) zg, zg.not e4 nz⟩
theorem SrcI.own {target : Expr} {I a : Addr} {xs : List AV} : SrcI C A q target I [I] xs (fun σ => σ a = some (.list xs)) (fun _ i σ ow s => s.heap.IsListIter I a i) where
  it := fun V => It.own
  wide := fun V ex i σ ow s h' t h fr gr => by
    obtain ⟨o, e1, e2, e3⟩ := h
    exact ⟨o, gr _ _ e1, e2, e3⟩
theorem SrcE.list {e : WE} {v target : Expr} (he : Both C d sc nms q e v) : SrcE C d sc nms q target v (yF e) where
  snd := fun A env V ρ hs ha σ ow s K Ea Q E w ok kx h => by
    refine he.ev A env V ρ hs ha σ ow s _ _ _ E w ok (fun u av σ' ow' s' z st g r => ?_) kx
    obtain ⟨items, hseq, z⟩ := z
    obtain ⟨l, vs, rfl, li, rr, hc⟩ := lZ g r hseq
    have hz := li.1
    obtain ⟨hh, gg, dd, tt, oo⟩ := s'
    refine qs li fun h' gr it => ?_
    have fr : ∀ b ∈ [hh.objs.size], hh.get? b = Option.none ∧ ∃ o, h'.get? b = some o := fun b m => by
      rw [List.mem_singleton.mp m]
      obtain ⟨o, e, _⟩ := it
      exact ⟨Heap.fresh _, o, e⟩
    have ko := (ok.stp st g).open_ (h' := h') (t := tt) (wr := [hh.objs.size]) gr fr
    have st' := st.trans (Stp.ext (s := ⟨hh, gg, dd, tt, oo⟩) (O := Own σ' ow') gr tt)
    have fr0 : ∀ b ∈ [hh.objs.size], s.heap.get? b = Option.none := fun b m => st.back rfl g b (fr b m).1
    have hlen : items.length ≤ 16777216 := by rw [rr.length]; exact hz
    rcases hc with ⟨rfl, off⟩ | ⟨rfl, hst⟩
    · have zg : Zg (Zs σ' ow' (zss V)) (Zs σ' ow' (zss (V.plus [hh.objs.size]))) hh := fun b y => by
        rcases y with y | y
        · exact .inl (.inl y)
        · rcases Vo.plus_mem y with y | y
          · exact .inl (.inr y)
          · exact .inr (fr b y).1
      obtain ⟨y1, m, y2⟩ := li
      exact h _ _ _ _ _ σ' ow' _ z (SrcI.ilist (ax := l) (vs := vs)) st' ko ⟨it, ⟨y1, m, gr _ _ y2⟩, rr.kp (fun b o e _ => gr b o e) zg, zg.not y2 off⟩ fr0 hlen
    · exact h _ _ _ _ _ σ' ow' _ z SrcI.own st' ko it fr0 hlen
noncomputable def Ev (C : Cx) (fp wr : List Addr) (P : Nat → Value → Prop) (S : Nat → Heap → Prop) (xs : List AV) (V : Vo) (i : Nat) (σ : St) (ow : Nat → Option Nat) (s : Shared) : Prop :=
  S i s.heap ∧ (∀ b ∈ fp, b ∈ wr ∨ (¬ Zs σ ow (zss (V.plus wr)) b ∧ ∃ o, s.heap.get? b = some o)) ∧ ∀ j x v, xs[j]? = some x → P j v → VR C (Zs σ ow (zss (V.plus wr))) s.heap x v
theorem It.ofW {I : Addr} {fp wr : List Addr} {m : Nat} {P : Nat → Value → Prop} {S : Nat → Heap → Prop} {xs : List AV} {n : Str} {np : Pos} (W : Walks C.prog C.w A I fp wr m P S) (hm : m = xs.length) (lv : ∀ i h, S i h → ∀ b ∈ wr, ∃ o, h.get? b = some o) {G : St → Prop} :
    It C A q (.Name n np) V I wr xs G (Ev C fp wr P S xs V) where
  step := fun X i σ ow s σ' ow' s' h g x g' _ => by
    obtain ⟨h1, h2, h3⟩ := h
    refine ⟨W.frame i _ _ h1 fun b hb o e => ?_, fun b hb => ?_, fun j y v hj hp => SStp.vr (envs := V.plus wr) x (h3 j y v hj hp)⟩
    · rcases h2 b hb with m | ⟨nz, _⟩
      · exact nu g m x e
      · exact x.keep b o e (fun z => nz (.inl z)) fun z => nz (.inr ((V.plus wr).sub b z))
    · rcases h2 b hb with m | ⟨nz, o, e⟩
      · exact .inl m
      · exact .inr ⟨(x.zg (zs := zss (V.plus wr))).not e nz, o, x.keep b o e (fun z => nz (.inl z)) fun z => nz (.inr ((V.plus wr).sub b z))⟩
  next := fun i y σ ow s Q E hy h g _ K => by
    obtain ⟨h1, h2, h3⟩ := h
    have hi : i < m := by rw [hm]; exact (List.getElem?_eq_some_iff.mp hy).1
    refine W.item i s _ E hi h1 fun v h' tk hP hS hk => ?_
    have hK : Kp (Zs σ ow (zss (V.plus wr))) s.heap h' := fun b o e nb => hk b o (fun m => nb (.inr (Vo.plus_wr m))) e
    refine wpAny_pure (K v h' tk ((h3 i y v hy hP).kp hK (Zg.refl _ _)) ⟨hS, fun b hb => ?_, fun j z u hj hp => (h3 j z u hj hp).kp hK (Zg.refl _ _)⟩ hk (lv _ _ hS))
    rcases h2 b hb with m | ⟨nz, o, e⟩
    · exact .inl m
    · exact .inr ⟨nz, o, hK b o e nz⟩
  done := fun σ ow s Q E h g hh _ K => by
    rw [← hm] at h
    exact W.done s _ E h.1 fun h' tk hk => K h' tk hk
  move := fun i σ ow s h' tk h g k => by
    obtain ⟨h1, h2, h3⟩ := h
    have hK : Kp (Zs σ ow (zss (V.plus wr))) s.heap h' := fun b o e nb => k b o (fun m => absurd (.inr (Vo.plus_sub b (List.mem_append_right _ m))) nb) e
    refine ⟨W.frame i _ _ h1 fun b hb o e => ?_, fun b hb => ?_, fun j z u hj hp => (h3 j z u hj hp).kp hK (Zg.refl _ _)⟩
    · rcases h2 b hb with m | ⟨nz, _⟩
      · exact k b o (fun _ => m) e
      · exact hK b o e nz
    · rcases h2 b hb with m | ⟨nz, o, e⟩
      · exact .inl m
      · exact .inr ⟨nz, o, hK b o e nz⟩
  self := fun i σ ow s Q E h g K => W.self i s Q E h.1 K
theorem SrcI.ofW {I : Addr} {fp wr : List Addr} {m : Nat} {P : Nat → Value → Prop} {S : Nat → Heap → Prop} {xs : List AV} {n : Str} {np : Pos} (W : Walks C.prog C.w A I fp wr m P S) (hm : m = xs.length) (lv : ∀ i h, S i h → ∀ b ∈ wr, ∃ o, h.get? b = some o) {G : St → Prop} :
    SrcI C A q (.Name n np) I wr xs G (Ev C fp wr P S xs) where
  it := fun V => It.ofW W hm lv
  wide := fun V ex i σ ow s h' t h fr gr => by
    obtain ⟨h1, h2, h3⟩ := h
    have zg := pt (V := V) (wr := wr) (σ := σ) (ow := ow) fr
    refine ⟨W.frame i _ _ h1 fun b _ o e => gr b o e, fun b hb => ?_, fun j y v hj hp => (h3 j y v hj hp).kp (fun b o e _ => gr b o e) zg⟩
    rcases h2 b hb with m | ⟨nz, o, e⟩
    · exact .inl m
    · exact .inr ⟨zg.not e nz, o, gr b o e⟩
theorem ym {a b : Int} (h1 : a.natAbs < 2 ^ 60) (h2 : b.natAbs < 2 ^ 60) : Builtin.Range.small a b 1 = true ∧ Builtin.Range.rangeSize a b 1 = (((b - a).toNat : Nat) : Int) := by
  have e : Builtin.Range.rangeSize a b 1 = (((b - a).toNat : Nat) : Int) := by rw [rangeSize_one]; split <;> omega
  refine ⟨?_, e⟩
  unfold Builtin.Range.small
  rw [e]
  simp only [Builtin.Range.rangeFitsLong, show ((1 : Int) > 0) = True by simp, if_true]
  simp
  omega
theorem xX {a c : Int} {n : Nat} {I : Addr} : ∀ (i : Nat) (h : Heap), IsRangeIter h I (a + (i : Nat) * c) ((n : Int) - (i : Nat)) c → ∀ b ∈ [I], ∃ o, h.get? b = some o := fun i h e b hb => by
  rw [List.mem_singleton.mp hb]
  exact ⟨_, e⟩
theorem SrcE.range (X : CxOk C T P) {n : Str} {np pp pos : Pos} {nm : Str} {es : WL} {xs : List Expr} (h : BothL C d sc nms false es xs) (hr : n = (Str.ofString "range")) (hn : n ∈ T.bltN) (h3 : gl sc n = true) : SrcE C d sc nms false (.Name nm pp) (.Call (.Name n np) xs [] pos) (kC es) where
  snd := fun A env V ρ hs ha σ ow s K Ea Q E w ok kx hQ => by
    obtain ⟨g1, g2, g3⟩ := ef h3
    have hboot : bootBuiltins n = some (.type "range") := by rw [hr]; decide +kernel
    refine wpAny_Call_ofName (bname X (by unfold Env.kindOf; rw [hs]; exact g1) g2 ok hn g3 hboot ?_)
    refine PyProof.Rows.callWith_type (cW h.stars) (cI h.stars (h.snd hs ha σ ow s _ Ea _ E w ok (fun vs avs σ' ow' s' z st g r => ?_) kx))
    obtain ⟨a, b, hab, ⟨ha1, hb1, hlen⟩, z⟩ := z
    obtain ⟨hsm, hsz⟩ := ym ha1 hb1
    have hh := ok.hnd.none
    have fin : ∀ (h₁ : Heap) (tk : Nat) (R : Addr) (t u v : Tok), (∀ b o, s'.heap.get? b = some o → h₁.get? b = some o) → IsRange h₁ R a b 1 t u v → wpAny (model C.prog C.w) A (pyIter (.ref R)) Q E { s' with heap := h₁, toks := tk } := fun h₁ tk R t u v gr1 hR => by
      refine wpAny_pyIter_range hR hsm ?_
      have gr : ∀ c o, s'.heap.get? c = some o → (h₁.push { cls := .type "range_iterator", data := .fields #[rawInt a, rawInt (Builtin.Range.rangeSize a b 1), rawInt 1] }).get? c = some o := fun c o e => Heap.get?_push_of_some _ (gr1 c o e)
      have nI : s'.heap.get? h₁.objs.size = Option.none := by
        cases e : s'.heap.get? h₁.objs.size with
        | none => rfl
        | some o => exact absurd (Heap.lt_size (gr1 _ _ e)) (Nat.lt_irrefl _)
      have fr : ∀ c ∈ [h₁.objs.size], s'.heap.get? c = Option.none ∧ ∃ o, (h₁.push { cls := .type "range_iterator", data := .fields #[rawInt a, rawInt (Builtin.Range.rangeSize a b 1), rawInt 1] }).get? c = some o := fun c m => by
        rw [List.mem_singleton.mp m]
        exact ⟨nI, _, Heap.get?_push_size _ rfl⟩
      have ko := (ok.stp st g).open_ (t := tk) (wr := [h₁.objs.size]) gr fr
      refine hQ _ _ _ _ _ σ' ow' _ z (SrcI.ofW (Walks.range hh h₁.objs.size a 1 (b - a).toNat) (by unfold gp; rw [List.length_map, List.length_range]) xX) (st.trans (Stp.ext gr tk)) ko ⟨?_, fun c hc => .inl hc, fun j x v hj hp => ?_⟩ (fun c m => st.back rfl g c (fr c m).1) (by unfold gp; rw [List.length_map, List.length_range]; omega)
      · show IsRangeIter _ _ _ _ _
        rw [hsz]
        simpa using Heap.get?_push_size _ rfl
      · obtain ⟨t, rfl⟩ := hp
        unfold gp at hj
        rw [List.getElem?_map, Option.map_eq_some_iff] at hj
        obtain ⟨k, hk, rfl⟩ := hj
        have : k = j := by
          obtain ⟨hlt, e⟩ := List.getElem?_eq_some_iff.mp hk
          rw [List.getElem_range] at e
          exact e.symm
        subst this
        rw [Int.mul_one]
        exact .int _ _
    obtain ⟨r, _⟩ := r
    cases r with
    | nil => cases hab
    | cons r1 r2 =>
      cases r2 with
      | nil =>
        cases r1 <;> cases hab
        exact call_range_1 (fin _ _ _ _ _ _ (fun _ _ e => Heap.get?_push_of_some _ e) (Heap.get?_push_size _ rfl))
      | cons r2 r3 =>
        cases r3 with
        | nil =>
          cases r1 <;> first | cases hab | skip
          cases r2 <;> cases hab
          exact call_range_2 (fin _ _ _ _ _ _ (fun _ _ e => Heap.get?_push_of_some _ e) (Heap.get?_push_size _ rfl))
        | cons r3 r4 => cases r1 <;> first | cases hab | (cases r2 <;> cases hab)
theorem BothS.forX {src : WX} {v : Expr} {x : Nat} {n : Str} {body : WS} {xs : List Stmt} {np pos : Pos} (hS : SrcE C d sc nms q (.Name n np) v src) (hB : BothB C d sc nms q body xs) (hv : mt v = true) (hn : nms[x]? = some n) :
    BothS C d sc nms q (qf x src body) (.For (.Name n np) v xs [] pos) where
  snd := fun A env V outer hF hs ha ρ σ ow s Qa Ea Q E w k ks kx => by
    refine wpAny_For (hS.snd A env V ρ hs ha σ ow s _ _ _ E w k.ok (kx.toE hF k) fun I wr xs G inv σ' ow' s' z S st ko hi fr hl => ?_) fun x => kI hv
    have g := ko.good.close_
    have k' := k.stp hF st g
    have nz : ∀ b ∈ wr, b ∉ V.its := fun b m n => by
      obtain ⟨_, o, y⟩ := k.ok.good.mem b (List.mem_append_right _ n)
      rw [fr b m] at y; cases y
    exact pc hF ha.frames (S.it V) (hB.snd A env (V.plus wr) outer hF.plus hs ha.plus) (.one hF.plus hn) k.ok.good.stays fr nz ks kx hi ⟨ko, k'.ns, k'.cells⟩ st.toS (fun v ρ σ R h => ⟨_, rfl, h⟩) z
end
end Ap
end
section
set_option genSizeOf false
namespace Ap
open PySem PySem.Calls PyProof.Rows
noncomputable def fP (caps : List Nat) (ρ : Loc) : Loc := ρ.zipIdx.map fun p => if caps.contains p.2 then p.1 else Option.none
noncomputable abbrev TB := AV → Loc → Option Loc
noncomputable def tb1 (x : Nat) : TB := fun v ρ => some (cY ρ x v)
noncomputable def eNo : PE := fun _ _ => False
noncomputable def kCL (go : List AV → St → (List AV → St → Prop) → Prop) (acc : List AV) (Q : List AV → St → Prop) : PQ := fun y σ => go (acc ++ [y]) σ Q
noncomputable def mU (G : St → Prop) (B : AV → St → PQ → Prop) : List AV → List AV → St → (List AV → St → Prop) → Prop
  | [], acc, σ, Q => G σ ∧ Q acc σ
  | v :: vs, acc, σ, Q => G σ ∧ B v σ (kCL (mU G B vs) acc Q)
noncomputable def tP (tb : TB) (elt : WE) (ρ : Loc) : AV → St → PQ → Prop := fun v σ R => ∃ ρ', tb v ρ = some ρ' ∧ elt ρ' σ R eNo
noncomputable def pn (own : Bool) (Q : PQ) : List AV → St → Prop := fun ys σ => mkL own ys σ Q
noncomputable def xG (own : Bool) (tb : TB) (elt : WE) (ρ : Loc) (Q : PQ) : List AV → (St → Prop) → St → Prop := fun xs G σ => mU G (tP tb elt ρ) xs [] σ (pn own Q)
noncomputable def mX (own : Bool) (src : WX) (tb : TB) (caps : List Nat) (elt : WE) : WE := fun ρ σ Q E => (caps.all fun i => (fJ ρ i).isSome) = true ∧ src ρ σ (xG own tb elt (fP caps ρ) Q) E
noncomputable def oY (scope sc : Scope) : Scope := { scope with names := scope.names.map fun p => if (p.2 == .free && sc.kind == .function && sc.names.lookup p.1 == some .cell) then (p.1, .cell) else (p.1, p.2) }
noncomputable def TgtOk (C : Cx) (scc : Scope) (nms' : List Str) (target : Expr) (tb : TB) : Prop :=
  ∀ (A : Around) (cenv : Env) V σ ow s v u m ρ ρ' (Q : Unit → Shared → Prop) E, A.handled = Option.none → cenv.scope = scc → s.heap.Ns cenv.locals m → VR C (Zs σ ow (zss V)) s.heap v u → tb v ρ = some ρ' →
    (∀ h' tk m', (∀ b o, b ≠ cenv.locals → s.heap.get? b = some o → h'.get? b = some o) → h'.Ns cenv.locals m' →
      (∀ j w, fJ ρ' j = some w → fJ ρ j = some w ∨ ∃ y val, nms'[j]? = some y ∧ VR C (Zs σ ow (zss V)) s.heap w val ∧ scc.names.lookup y = some .local ∧ m' y = some val) → Q () { s with heap := h', toks := tk }) →
    wpAny (model C.prog C.w) A (assign target cenv u) Q E s
section
variable {C : Cx} {T : Tabs} {P : Prg} {d : Nat} {sc : Scope} {nms nms' : List Str} {q : Bool} {A : Around} {V : Vo} {σ σ' : St} {ow ow' : Nat → Option Nat} {s s' : Shared} {env : Env}
theorem TgtOk.one {scc : Scope} {i : Nat} {x : Str} {pos : Pos} (hk : scc.kind = .function) (hx : nms'[i]? = some x) (hl : scc.names.lookup x = some .local) : TgtOk C scc nms' (.Name x pos) (tb1 i) := by
  intro A cenv V σ ow s v u m ρ ρ' Q E hh hs hn r e K
  cases e
  refine assign_Name (wpAny_storeName_local (by unfold Env.kindOf; rw [hs]; exact hl) hn (fun h' hn' hsb => ?_) (by rw [hs, hk]; rfl))
  refine K h' _ _ (fun b o nb e => (hsb.2 b nb).trans e) hn' fun j w hj => ?_
  rcases jM hj with ⟨rfl, rfl⟩ | ⟨_, e⟩
  · exact .inr ⟨x, u, hx, r, hl, if_pos rfl⟩
  · exact .inl e
theorem pM {l : List (Str × Addr)} {y : Str} {c : Addr} (hm : (y, c) ∈ l) (hu : ∀ c', (y, c') ∈ l → c' = c) : l.lookup y = some c := by
  induction l with
  | nil => cases hm
  | cons p r ih =>
    obtain ⟨k, v⟩ := p
    rw [List.lookup_cons]
    cases hb : y == k with
    | true =>
      have := beq_iff_eq.mp hb
      subst this
      rw [hu v List.mem_cons_self]
    | false =>
      rcases List.mem_cons.mp hm with e | hm
      · cases e; rw [beq_self_eq_true] at hb; cases hb
      · exact ih hm fun c' h => hu c' (List.mem_cons_of_mem _ h)
theorem ui {scope : Scope} (hf : ∀ y ∈ scope.names, y.2 = .free → ∃ c, env.cells.lookup y.1 = some c) :
    ∃ cl, closureFor scope env = pure cl ∧ ∀ y c, (y, NameKind.free) ∈ scope.names → env.cells.lookup y = some c → cl.lookup y = some c := by
  have go : ∀ (l : List (Str × NameKind)), (∀ y ∈ l, y.2 = .free → ∃ c, env.cells.lookup y.1 = some c) → ∀ acc : List (Str × Addr), (∀ y c, (y, c) ∈ acc → env.cells.lookup y = some c) →
      ∃ cl, (forIn l acc (fun x r => (match x with | (name, kind) => if (kind == NameKind.free) = true then do
        let c ← cellOf env name
        pure (ForInStep.yield ((name, c) :: r)) else pure (ForInStep.yield r) : Sem (ForInStep (List (Str × Addr))))) : Sem (List (Str × Addr))) = pure cl ∧ (∀ y c, (y, c) ∈ cl → env.cells.lookup y = some c) ∧ (∀ p ∈ acc, p ∈ cl) ∧ ∀ y, (y, NameKind.free) ∈ l → ∃ c, (y, c) ∈ cl := by
    intro l
    induction l with
    | nil => intro _ acc ha; exact ⟨acc, rfl, ha, fun _ h => h, fun y h => nomatch h⟩
    | cons p r ih =>
      obtain ⟨nm, kd⟩ := p
      intro hl acc ha
      rw [List.forIn_cons]
      by_cases hk : kd = .free
      · subst hk
        obtain ⟨c, hc⟩ := hl _ List.mem_cons_self rfl
        have e : cellOf env nm = pure c := by unfold cellOf; rw [hc]
        obtain ⟨cl, c1, c2, c3, c4⟩ := ih (fun y hy => hl y (List.mem_cons_of_mem _ hy)) ((nm, c) :: acc) (fun y c' h => by
          rcases List.mem_cons.mp h with e | h
          · cases e; exact hc
          · exact ha y c' h)
        refine ⟨cl, ?_, c2, fun p hp => c3 p (List.mem_cons_of_mem _ hp), fun y h => ?_⟩
        · simp only [beq_self_eq_true, if_true, e]
          exact c1
        · rcases List.mem_cons.mp h with e | h
          · cases e; exact ⟨c, c3 _ List.mem_cons_self⟩
          · exact c4 y h
      · have hb : (kd == NameKind.free) = false := beq_eq_false_iff_ne.mpr hk
        obtain ⟨cl, c1, c2, c3, c4⟩ := ih (fun y hy => hl y (List.mem_cons_of_mem _ hy)) acc ha
        refine ⟨cl, ?_, c2, c3, fun y h => ?_⟩
        · simp only [hb, Bool.false_eq_true, if_false]
          exact c1
        · rcases List.mem_cons.mp h with e | h
          · cases e; exact absurd rfl hk
          · exact c4 y h
  obtain ⟨cl, c1, c2, c3, c4⟩ := go scope.names hf [] (fun y c h => nomatch h)
  refine ⟨cl, ?_, fun y c hy hc => ?_⟩
  · unfold closureFor
    exact (congrArg (fun x => x >>= pure) c1).trans rfl
  · obtain ⟨c', h'⟩ := c4 y hy
    have : c' = c := by have := c2 y c' h'; rw [hc] at this; cases this; rfl
    subst this
    exact pM h' fun c'' h => by have := c2 y c'' h; rw [hc] at this; cases this; rfl
end
end Ap
end
section
set_option genSizeOf false
namespace Ap
open PySem PySem.Calls PyProof.Rows
section
variable {C : Cx} {T : Tabs} {P : Prg} {d : Nat} {sc : Scope} {nms nms' : List Str} {q : Bool} {A : Around} {V : Vo} {σ σ' : St} {ow ow' : Nat → Option Nat} {s s' : Shared} {env : Env}
theorem qC {prog : Program} {w : World} {R : Result → Shared → Prop} {elt target iter : Expr} {scope : Scope} {pos : Pos} {it acc : Value} (I : Nat → Shared → Prop)
    (turn : ∀ n s, I n s → wpAny (model prog w) A (pyNext it) (fun r s₁ => match r with
      | Option.none => R (.ok .next) s₁
      | some v => wpAny (model prog w) A (letOwnedTupleGo target it v) (fun _ s₂ => wpAny (model prog w) A (assign target env v) (fun _ s₃ => wpAny (model prog w) A (eval elt env) (fun x s₄ =>
          wpAny (model prog w) A (call (.builtin "list.append") [acc, x]) (fun _ s₅ => ∃ m, m < n ∧ I m s₅) (notedBy (model prog w) A env fun e s' => R (.error e) s') s₄)
          (notedBy (model prog w) A env fun e s' => R (.error e) s') s₃) (notedBy (model prog w) A env fun e s' => R (.error e) s') s₂) (notedBy (model prog w) A env fun e s' => R (.error e) s') s₁) (notedBy (model prog w) A env fun e s' => R (.error e) s') s)
    (n : Nat) (h : I n s) : codeAny (model prog w) A (.compLoop (.ListComp elt [⟨target, iter, [], 0⟩] scope pos) 0 it acc env) R s := by
  refine codeAny_loop rfl I (fun n s hI => ?_) n h
  show wpAny _ _ ((compTurn (.ListComp elt [⟨target, iter, [], 0⟩] scope pos) 0 it acc env).onRaise (fun x => do noteFrame x env; theTreesLotGoes x)) _ _ s
  refine wpAny_noted ?_
  rw [compTurn_list1]
  refine wpAny_bind (wpAny_standAt (wpAny_bind (wpAny_mono (turn n s hI) (fun r s₁ h₁ => ?_) fun _ _ h' => h')))
  cases r with
  | none => exact wpAny_pure h₁
  | some v =>
    refine wpAny_bind (wpAny_mono h₁ (fun _ s₂ h₂ => ?_) fun _ _ h' => h')
    exact wpAny_bind (wpAny_mono h₂ (fun _ s₃ h₃ => wpAny_bind (wpAny_bind (wpAny_mono h₃ (fun x s₄ h₄ => wpAny_bind (wpAny_mono h₄
      (fun _ s₅ h₅ => wpAny_pure (wpAny_pure ⟨rfl, h₅⟩)) fun _ _ h' => h')) fun _ _ h' => h'))) fun _ _ h' => h')
noncomputable def CapOk (C : Cx) (cenv : Env) (nms' : List Str) (V : Vo) (wr : List Addr) (ρ : Loc) (σ : St) (ow : Nat → Option Nat) (s : Shared) : Prop :=
  ∀ i v, fJ ρ i = some v → ∃ y c val, nms'[i]? = some y ∧ VR C (Zs σ ow (zss V)) s.heap v val ∧ (cenv.kindOf y = some .cell ∨ cenv.kindOf y = some .free) ∧ cenv.cells.lookup y = some c ∧ s.heap.IsCell c (some val) ∧ ¬ Own σ ow c ∧ c ∉ wr
theorem CapOk.stp {cenv : Env} {wr : List Addr} {ρ : Loc} (k : CapOk C cenv nms' V wr ρ σ ow s) (x : Stp (frs V) (Own σ ow) (Own σ' ow') s s') : CapOk C cenv nms' V wr ρ σ' ow' s' := fun i v e => by
  obtain ⟨y, c, val, h1, h2, h3, h4, ⟨o, e1, e2⟩, h6, h7⟩ := k i v e
  obtain ⟨sl, e3⟩ := x.up h6 o e1
  exact ⟨y, c, val, h1, x.vr h2, h3, h4, ⟨_, e3, e2⟩, (fun z => (x.fresh _ z).elim h6 fun z => by rw [e1] at z; cases z), h7⟩
theorem CapOk.its {cenv : Env} {wr : List Addr} {ρ : Loc} {h' : Heap} {t : Nat} (k : CapOk C cenv nms' (V.plus wr) wr ρ σ ow s) (hk : ∀ b o, b ∉ wr → s.heap.get? b = some o → h'.get? b = some o) : CapOk C cenv nms' (V.plus wr) wr ρ σ ow { s with heap := h', toks := t } := fun i v e => by
  obtain ⟨y, c, val, h1, h2, h3, h4, ⟨o, e1, e2⟩, h6, h7⟩ := k i v e
  exact ⟨y, c, val, h1, h2.kp (fun b o e nb => hk b o (fun m => nb (.inr (Vo.plus_wr m))) e) (Zg.refl _ _), h3, h4, ⟨o, hk _ _ h7 e1, e2⟩, h6, h7⟩
theorem vQ {caps : List Nat} {ρ : Loc} {i : Nat} {v : AV} (h : fJ (fP caps ρ) i = some v) : i ∈ caps ∧ fJ ρ i = some v := by
  unfold fJ fP at h
  rw [List.getD_eq_getElem?_getD, List.getElem?_map, List.getElem?_zipIdx] at h
  unfold fJ
  rw [List.getD_eq_getElem?_getD]
  cases e : ρ[i]? with
  | none => rw [e] at h; cases h
  | some o =>
    rw [e] at h
    have h' : (if caps.contains (0 + i) then o else Option.none) = some v := h
    rw [Nat.zero_add] at h'
    by_cases hc : caps.contains i = true
    · rw [if_pos hc] at h'
      exact ⟨List.contains_iff_mem.mp hc, h'⟩
    · rw [if_neg hc] at h'; cases h'
theorem wj (V : Vo) (a b : List Addr) : (V.plus a).plus b = V.plus (b ++ a) := by
  unfold Vo.plus
  rw [List.append_assoc]
theorem Good.adopt {D : Addr} {wr : List Addr} {xs : List AV} {vs : List Value} {n : Nat} (G : Good C (V.plus wr) σ ow s) (hD : D ∈ wr) (nV : D ∉ zss V) (e : s.heap.get? D = some (rV vs n)) (hz : vs.length ≤ 16777216) (r : VRs C (Zs σ ow (zss (V.plus wr))) s.heap xs vs) :
    Good C V (upd σ D (.list xs)) ow s := by
  have nO := G.off D (Vo.plus_wr hD)
  have ow1 : ∀ b, Own (upd σ D (.list xs)) ow b → Own σ ow b ∨ b = D := fun b z => eZ z
  have zg : Zg (Zs σ ow (zss (V.plus wr))) (Zs (upd σ D (.list xs)) ow (zss V)) s.heap := fun b z => by
    rcases z with z | z
    · rcases ow1 b z with z | z
      · exact .inl (.inl z)
      · exact .inl (.inr (by rw [z]; exact Vo.plus_wr hD))
    · exact .inl (.inr (Vo.plus_sub b z))
  have oD : ow D = Option.none := by
    cases z : ow D with
    | none => rfl
    | some a => exact absurd (.inr (by rw [z]; rfl)) nO
  refine ⟨G.stays, G.frames, fun b m => G.apart b (List.mem_append_right _ m), fun b m => G.mem b (Vo.plus_sub b m), G.sub, fun b o' eb => ?_, fun b c eb => ?_, fun b eb => ?_, fun L hL z => ?_, G.gens⟩
  · by_cases z : b = D
    · subst z
      rw [gF] at eb
      cases eb
      exact ⟨vs, ⟨hz, n, e⟩, r.kp (fun _ _ e _ => e) zg⟩
    · rw [cR σ _ z] at eb
      exact (G.store b o' eb).kp (fun _ _ e _ => e) zg rfl fun dx hd => ⟨rfl, hd⟩
  · obtain ⟨x1, x2, x3⟩ := G.parts b c eb
    refine ⟨?_, x2, x3⟩
    rw [cR σ _ (fun q => by subst q; rw [oD] at eb; cases eb)]
    exact x1
  · by_cases z : b = D
    · subst z; exact (G.mem _ (Vo.plus_wr hD)).1
    · rw [cR σ _ z] at eb; exact G.fresh b eb
  · rcases ow1 L z with z | z
    · exact G.off L (Vo.plus_sub L hL) z
    · subst z; exact nV hL
theorem Good.re (G : Good C V σ ow s) {V' : Vo} (hl : V'.l = V.l) (hf : V'.fs = V.fs) (hi : ∀ b, b ∈ V'.its ↔ b ∈ V.its) : Good C V' σ ow s := by
  have hz : ∀ b, b ∈ zss V' → b ∈ zss V := fun b m => by
    rcases List.mem_append.mp m with m | m
    · exact List.mem_append_left _ (hf ▸ m)
    · exact List.mem_append_right _ ((hi b).mp m)
  have zg : Zg (Zs σ ow (zss V)) (Zs σ ow (zss V')) s.heap := fun b z => .inl (z.imp id (hz b))
  refine ⟨G.stays, by rw [hl]; exact G.frames, fun b m n => G.apart b ((hi b).mp m) (hf ▸ n), fun b m => G.mem b (hz b m), by rw [hl, hf]; exact G.sub, fun b o e => ?_, G.parts, G.fresh, fun L m => G.off L (hz L m), G.gens⟩
  exact (G.store b o e).kp (fun _ _ e _ => e) zg rfl fun dx hd => ⟨rfl, hd⟩
theorem Stp.its {O O' : Nat → Prop} {s₀ : Shared} {wr : List Addr} {h' : Heap} {t : Nat} (x : Stp (frs V) O O' s₀ s) (nf : ∀ b ∈ V.fs, b ∉ wr) (k : ∀ b o, b ∉ wr → s.heap.get? b = some o → h'.get? b = some o) (fr : ∀ b ∈ wr, s₀.heap.get? b = Option.none) :
    Stp (frs V) O O' s₀ { s with heap := h', toks := t } where
  keep := fun b o e n m => k b o (fun w => by rw [fr b w] at e; cases e) (x.keep b o e n m)
  frm := fun b o e m => (x.frm b o e m).elim fun sl z => ⟨sl, k b _ (nf b m) z⟩
  grow := x.grow
  fresh := x.fresh
  gens := x.gens
  drawn := x.drawn
  os := x.os
theorem Stp.adopt {O : Nat → Prop} {fs : List Addr} {s₀ : Shared} {D : Addr} {o : AObj} (x : Stp fs O (Own σ ow) s₀ s) (fr : s₀.heap.get? D = Option.none) : Stp fs O (Own (upd σ D o) ow) s₀ s :=
  ⟨x.keep, x.frm, fun b z => uu (x.grow b z), fun b z => by
    rcases eZ z with z | z
    · exact x.fresh b z
    · subst z; exact .inr fr, x.gens, x.drawn, x.os⟩
theorem zu {G : St → Prop} {B : AV → St → PQ → Prop} {xs acc : List AV} {R : List AV → St → Prop} (h : mU G B xs acc σ R) : G σ := by
  cases xs with
  | nil => exact h.1
  | cons x xs => exact h.1
noncomputable def qB (scope sc : Scope) (nms nms' : List Str) (caps : List Nat) : Bool :=
  scope.kind == .function && (scope.names.all fun y => !(y.2 == .cell) && (!(y.2 == .free) || caps.any fun i => nms[i]? == some y.1) && (!(y.2 == .local) || scope.names.lookup y.1 == some .local)) &&
  (caps.all fun i => nms'[i]? == nms[i]? && ((nms[i]?).map fun y => (scope.names.contains (y, NameKind.free)) && (sc.names.lookup y == some .cell || sc.names.lookup y == some .free) && ((oY scope sc).names.lookup y == some .cell || (oY scope sc).names.lookup y == some .free)) == some true)
structure CEnd (C : Cx) (V : Vo) (own : Bool) (Qa : PQ) (σ : St) (ow : Nat → Option Nat) (s : Shared) (D Cc : Addr) (σ₁ : St) (ow₁ : Nat → Option Nat) (s₁ : Shared) : Prop where
  ex : ∃ vs kk acc m, pn own Qa acc σ₁ ∧ s₁.heap.get? D = some (rV vs kk) ∧ VRs C (Zs σ₁ ow₁ (zss (V.plus [Cc, D]))) s₁.heap acc vs ∧ s₁.heap.Ns Cc m ∧ vs.length ≤ 16777216
  good : Good C (V.plus [Cc, D]) σ₁ ow₁ s₁
  stp : Stp (frs V) (Own σ ow) (Own σ₁ ow₁) s s₁
  ne : D ≠ Cc
  fr : ∀ b ∈ [Cc, D], s.heap.get? b = Option.none
theorem qj {own : Bool} {src : WX} {tb : TB} {caps : List Nat} {ew : WE} {elt iter target : Expr} {scope : Scope} {pos pos' : Pos} {use : Option (Value → Sem Unit)} (hS : SrcE C d sc nms false target iter src) (hE : Both C d (oY scope sc) nms' false ew elt) (hT : TgtOk C (oY scope sc) nms' target tb)
    (hk : qB scope sc nms nms' caps = true) (hset : mt iter = true) {ρ : Loc} {Qa : PQ} {Ea : PE} {Q : Value → Shared → Prop} {E : Value → Shared → Prop} (hs : env.scope = sc) (ha : AOk A V d) (w : mX own src tb caps ew ρ σ Qa Ea) (ok : Ok C A false env V nms ρ σ ow s) (kx : KX C V σ ow s Ea E)
    (fin : ∀ D Cc σ₁ ow₁ s₁, CEnd C V own Qa σ ow s D Cc σ₁ ow₁ s₁ → compPost (model C.prog C.w) A E use Q (.ref D) Cc (.ok .next) s₁) :
    wpAny (model C.prog C.w) A (comprehension (.ListComp elt [⟨target, iter, [], 0⟩] scope pos) scope env pos' (newList []) false (eval iter env) use) Q E s := by
  obtain ⟨hc, w⟩ := w
  have hh := ok.hnd.none
  unfold qB at hk
  rw [Bool.and_eq_true, Bool.and_eq_true, beq_iff_eq] at hk
  obtain ⟨⟨hkind, hnm⟩, hcp⟩ := hk
  have hn1 : ∀ y ∈ scope.names, y.2 ≠ .cell ∧ (y.2 = .free → ∃ i ∈ caps, nms[i]? = some y.1) ∧ (y.2 = .local → scope.names.lookup y.1 = some .local) := fun y hy => by
    have := List.all_eq_true.mp hnm y hy
    rw [Bool.and_eq_true, Bool.and_eq_true, Bool.or_eq_true, Bool.or_eq_true, Bool.not_eq_true', Bool.not_eq_true', Bool.not_eq_true', beq_iff_eq] at this
    obtain ⟨⟨t1, t2⟩, t3⟩ := this
    refine ⟨(fun z => by rw [z] at t1; cases t1), fun z => ?_, fun z => t3.resolve_left (by rw [z]; decide)⟩
    obtain ⟨i, hi, e⟩ := List.any_eq_true.mp (t2.resolve_left (by rw [z]; decide))
    exact ⟨i, hi, beq_iff_eq.mp e⟩
  have hn2 : ∀ i ∈ caps, ∃ y v c val, (nms[i]? = some y ∧ nms'[i]? = some y ∧ (y, NameKind.free) ∈ scope.names ∧ ((oY scope sc).names.lookup y = some .cell ∨ (oY scope sc).names.lookup y = some .free)) ∧ fJ ρ i = some v ∧ VR C (Zs σ ow (zss V)) s.heap v val ∧ env.cells.lookup y = some c ∧ s.heap.IsCell c (some val) ∧ ¬ Own σ ow c ∧ env.kindOf y ≠ some .local := fun i hi => by
    have h1 := List.all_eq_true.mp hcp i hi
    rw [Bool.and_eq_true, beq_iff_eq, beq_iff_eq, Option.map_eq_some_iff] at h1
    obtain ⟨e1, y, e2, h1⟩ := h1
    rw [Bool.and_eq_true, Bool.and_eq_true, Bool.or_eq_true, Bool.or_eq_true, beq_iff_eq, beq_iff_eq, beq_iff_eq, beq_iff_eq] at h1
    obtain ⟨⟨h1, h2⟩, h3⟩ := h1
    obtain ⟨v, e3⟩ := Option.isSome_iff_exists.mp (List.all_eq_true.mp hc i hi)
    obtain ⟨y', val, e4, r, l⟩ := ok.loc.val i v e3
    rw [e2] at e4
    cases e4
    have nl : env.kindOf y ≠ some .local := fun kd => by
      unfold Env.kindOf at kd
      rw [hs] at kd
      rcases h2 with h2 | h2 <;> rw [kd] at h2 <;> cases h2
    refine ⟨y, v, ?_⟩
    rcases l with ⟨kd, _⟩ | ⟨c, kd, hc', hv, ho⟩
    · exact absurd kd nl
    · exact ⟨c, val, ⟨e2, e1.trans e2, List.contains_iff_mem.mp h1, h3⟩, e3, r, hc', hv, ho, nl⟩
  obtain ⟨cl, hcl, hlk⟩ := ui (env := env) (scope := scope) fun y hy hf => by
    obtain ⟨i, hi, e⟩ := (hn1 y hy).2.1 hf
    obtain ⟨y', v, c, val, ⟨e1, _⟩, _, _, hc', _⟩ := hn2 i hi
    rw [e] at e1
    cases e1
    exact ⟨c, hc'⟩
  refine wpAny_comprehension_free (use := use) rfl (fun x => kI hset) hcl hkind (fun y hy => (hn1 y hy).2.2) ?_
  refine hS.snd A env V ρ hs ha σ ow s _ Ea _ E w ok kx fun I wr xs G inv σ' ow' s' z S st ko hi fr hlen => ?_
  refine wpAny_newObj_type (wpAny_newFunctionEnv (fun y hy => (hn1 y hy).1) (by intro y hy; simp at hy) (fun h₁ hns₁ hsb₁ => ?_) hkind)
  dsimp only at hns₁ hsb₁ ⊢
  generalize hH2 : s'.heap.push { cls := .type "list", dict := Option.none, data := .seq ([] : List Value).toArray } = H2 at hns₁ hsb₁ ⊢
  have hCs : H2.objs.size = s'.heap.objs.size + 1 := by rw [← hH2, Heap.size_push]
  have hDC : s'.heap.objs.size ≠ H2.objs.size := by rw [hCs]; exact Nat.ne_of_lt (Nat.lt_succ_self _)
  have below : ∀ b, b < s'.heap.objs.size → b ≠ H2.objs.size ∧ b ≠ s'.heap.objs.size := fun b hb => ⟨by rw [hCs]; exact Nat.ne_of_lt (Nat.lt_succ_of_lt hb), Nat.ne_of_lt hb⟩
  have old : ∀ b o, s'.heap.get? b = some o → h₁.get? b = some o := fun b o e => hsb₁.extBut b o (below b (Heap.lt_size e)).1 (Heap.get?_push_of_some _ (hH2 ▸ Heap.get?_push_of_some _ e))
  have hacc : h₁.get? s'.heap.objs.size = some (rV [] 0) := hsb₁.extBut _ _ hDC (Heap.get?_push_of_some _ (hH2 ▸ Heap.get?_push_size _ rfl))
  obtain ⟨D, hD⟩ : ∃ D, s'.heap.objs.size = D := ⟨_, rfl⟩
  obtain ⟨Cc, hCc⟩ : ∃ Cc, H2.objs.size = Cc := ⟨_, rfl⟩
  have frD : s'.heap.get? D = Option.none := by rw [← hD]; exact Heap.fresh _
  have frC : s'.heap.get? Cc = Option.none := by
    cases e : s'.heap.get? Cc with
    | none => rfl
    | some o => exact absurd hCc.symm (below Cc (Heap.lt_size e)).1
  rw [hD] at hDC hacc ⊢
  rw [hCc] at hDC hns₁ ⊢
  clear hD hCc hsb₁ below hCs hH2
  -- the vessel of the comprehension: its names, the list that it makes, what it runs over
  have e3 : (V.plus [Cc, D]).plus wr = V.plus (wr ++ [Cc, D]) := wj V _ _
  have frx : ∀ b ∈ [Cc, D], s'.heap.get? b = Option.none ∧ ∃ o, h₁.get? b = some o := fun b hb => by
    rcases List.mem_cons.mp hb with rfl | hb
    · obtain ⟨o, es, ep, e, _⟩ := hns₁
      exact ⟨frC, o, e⟩
    · rw [List.mem_singleton.mp hb]
      exact ⟨frD, _, hacc⟩
  have fr3 : ∀ b ∈ wr ++ [Cc, D], s.heap.get? b = Option.none := fun b hb => by
    rcases List.mem_append.mp hb with hb | hb
    · exact fr b hb
    · exact st.back rfl ko.good.close_ b (frx b hb).1
  have k0 := ko.close_
  have nfs : ∀ b ∈ V.fs, b ∉ wr ++ [Cc, D] := fun b m n => by
    obtain ⟨_, o, y⟩ := ok.good.mem b (V.sub b m)
    rw [fr3 b n] at y; cases y
  have nits : ∀ b ∈ wr ++ [Cc, D], b ∉ zss V := fun b m n => by
    obtain ⟨_, o, y⟩ := ok.good.mem b n
    rw [fr3 b m] at y; cases y
  have Cw : Cc ∉ wr := fun m => by
    obtain ⟨_, o, y⟩ := ko.good.mem Cc (Vo.plus_wr m)
    rw [frC] at y; cases y
  have Dw : D ∉ wr := fun m => by
    obtain ⟨_, o, y⟩ := ko.good.mem D (Vo.plus_wr m)
    rw [frD] at y; cases y
  generalize hce : compEnvC scope cl Cc env = cenv
  have cL : cenv.locals = Cc := by rw [← hce]; rfl
  have cS : cenv.scope = oY scope sc := by rw [← hce, ← hs]; rfl
  have cC : cenv.cells = cl := by rw [← hce]; rfl
  have cG : cenv.globals = mainGlobals := by rw [← hce]; exact ok.loc.glob
  have cB : cenv.builtins = builtinsNs := by rw [← hce]; exact ok.loc.blt
  have g3 : Good C (V.plus (wr ++ [Cc, D])) σ' ow' { s' with heap := h₁, toks := s'.toks + ([] : List (Str × Value)).length } :=
    (ko.good.open_ (wr := [Cc, D]) old frx).re rfl rfl fun b => by
      show b ∈ (wr ++ [Cc, D]) ++ V.its ↔ b ∈ [Cc, D] ++ (wr ++ V.its)
      simp only [List.mem_append]
      constructor
      · rintro ((h | h) | h)
        · exact .inr (.inl h)
        · exact .inl h
        · exact .inr (.inr h)
      · rintro (h | h | h)
        · exact .inl (.inr h)
        · exact .inl (.inl h)
        · exact .inr h
  have hi1 := S.wide V [Cc, D] 0 σ' ow' s' h₁ (s'.toks + ([] : List (Str × Value)).length) hi (fun b hb => (frx b hb).1) old
  have cap0 : CapOk C cenv nms' (V.plus (wr ++ [Cc, D])) (wr ++ [Cc, D]) (fP caps ρ) σ' ow' { s' with heap := h₁, toks := s'.toks + ([] : List (Str × Value)).length } := fun i v e => by
    obtain ⟨m1, m2⟩ := vQ e
    obtain ⟨y, v', c, val, ⟨e1, e2, e4, e5⟩, e6, r, e7, ⟨o, e8, e9⟩, e10, nl⟩ := hn2 i m1
    obtain ⟨y', val', n1, r', l⟩ := ko.loc.val i v m2
    rw [e1] at n1
    cases n1
    have cN : c ∉ wr ++ [Cc, D] := fun m => by rw [fr3 c m] at e8; cases e8
    rcases l with ⟨kd, _⟩ | ⟨c', kd, hc', ⟨o', e11, e12⟩, ho⟩
    · exact absurd kd nl
    · rw [e7] at hc'
      cases hc'
      refine ⟨y, c, val', e2, r'.kp (fun b o e _ => old b o e) (fun b z => ?_), ?_, by rw [cC]; exact hlk y c e4 e7, ⟨_, old _ _ e11, e12⟩, ho, cN⟩
      · rcases z with z | z
        · exact .inl (.inl z)
        · rcases Vo.plus_mem z with z | z
          · exact .inl (.inr (Vo.plus_sub b z))
          · rcases List.mem_append.mp z with z | z
            · exact .inl (.inr (Vo.plus_wr z))
            · exact .inr (frx b z).1
      · unfold Env.kindOf
        rw [cS]
        exact e5
  have loop : codeAny (model C.prog C.w) A (.compLoop (.ListComp elt [⟨target, iter, [], 0⟩] scope pos) 0 (.ref I) (.ref D) cenv) (compPost (model C.prog C.w) A E use Q (.ref D) Cc) { s' with heap := h₁, toks := s'.toks + ([] : List (Str × Value)).length } := by
    refine qC (fun n s₁ => ∃ i acc vs σ₁ ow₁ m k, n = xs.length - i ∧ i ≤ xs.length ∧ inv (V.plus [Cc, D]) i σ₁ ow₁ s₁ ∧ Good C (V.plus (wr ++ [Cc, D])) σ₁ ow₁ s₁ ∧ s₁.heap.get? D = some (rV vs k) ∧ vs.length = i ∧ VRs C (Zs σ₁ ow₁ (zss (V.plus (wr ++ [Cc, D])))) s₁.heap acc vs ∧ s₁.heap.Ns Cc m ∧
      CapOk C cenv nms' (V.plus (wr ++ [Cc, D])) (wr ++ [Cc, D]) (fP caps ρ) σ₁ ow₁ s₁ ∧ Stp (frs V) (Own σ ow) (Own σ₁ ow₁) s s₁ ∧ mU G (tP tb ew (fP caps ρ)) (xs.drop i) acc σ₁ (pn own Qa)) ?_ xs.length
      ⟨0, [], [], σ', ow', _, 0, rfl, Nat.zero_le _, hi1, g3, hacc, rfl, .nil, hns₁, cap0, st.trans (Stp.ext old _), z⟩
    rintro n s₁ ⟨i, acc, vs, σ₁, ow₁, m, kk, rfl, hle, hi, g, hDo, hvl, hr, hns, cap, st1, w⟩
    have e4 : Good C ((V.plus [Cc, D]).plus wr) σ₁ ow₁ s₁ := by rw [e3]; exact g
    by_cases hlt : i < xs.length
    · have hd : xs.drop i = xs[i] :: xs.drop (i + 1) := List.drop_eq_getElem_cons hlt
      rw [hd] at w
      obtain ⟨hG, ρ', htb, w⟩ := w
      refine wpAny_mono ((S.it (V.plus [Cc, D])).next i xs[i] σ₁ ow₁ s₁ _ _ (List.getElem?_eq_getElem hlt) hi e4 hG ?_) (fun r s₁ h₁ => by
        cases r with
        | none => exact False.elim h₁
        | some v => exact h₁) fun _ _ z => z
      intro v h' tk r hi' hk lv
      rw [e3] at r
      have hns' : h'.Ns Cc m := hns.at' fun o e => hk _ _ Cw e
      have hk3 : ∀ b o, b ∉ wr ++ [Cc, D] → s₁.heap.get? b = some o → h'.get? b = some o := fun b o nb e => hk b o (fun m => nb (List.mem_append_left _ m)) e
      have hDo' : h'.get? D = some (rV vs kk) := hk _ _ Dw hDo
      have lv3 : ∀ b ∈ wr ++ [Cc, D], ∃ o, h'.get? b = some o := fun b hb => by
        rcases List.mem_append.mp hb with hb | hb
        · exact lv b hb
        · rcases List.mem_cons.mp hb with rfl | hb
          · obtain ⟨o, es, ep, e, _⟩ := hns'
            exact ⟨o, e⟩
          · rw [List.mem_singleton.mp hb]
            exact ⟨_, hDo'⟩
      have g' := g.its (t := tk) hk3 lv3
      refine hT A cenv (V.plus (wr ++ [Cc, D])) σ₁ ow₁ { s₁ with heap := h', toks := tk } xs[i] v m (fP caps ρ) ρ' _ _ hh cS (by rw [cL]; exact hns') r htb fun h₂ tk₂ m₂ hk₂ hns₂ hρ => ?_
      rw [cL] at hk₂ hns₂
      have hk23 : ∀ b o, b ∉ wr ++ [Cc, D] → h'.get? b = some o → h₂.get? b = some o := fun b o nb e => hk₂ b o (fun q => nb (List.mem_append_right _ (by rw [q]; exact List.mem_cons_self))) e
      have hDo₂ : h₂.get? D = some (rV vs kk) := hk₂ _ _ hDC hDo'
      have lv₂ : ∀ b ∈ wr ++ [Cc, D], ∃ o, h₂.get? b = some o := fun b hb => by
        by_cases q : b = Cc
        · subst q
          obtain ⟨o, es, ep, e, _⟩ := hns₂
          exact ⟨o, e⟩
        · obtain ⟨o, e⟩ := lv3 b hb
          exact ⟨o, hk₂ b o q e⟩
      have g₂ : Good C (V.plus (wr ++ [Cc, D])) σ₁ ow₁ { s₁ with heap := h₂, toks := tk₂ } := g'.its (t := tk₂) hk23 lv₂
      have cap₂ : CapOk C cenv nms' (V.plus (wr ++ [Cc, D])) (wr ++ [Cc, D]) (fP caps ρ) σ₁ ow₁ { s₁ with heap := h₂, toks := tk₂ } := (cap.its (t := tk) hk3).its (t := tk₂) hk23
      have hK₂ : Kp (Zs σ₁ ow₁ (zss (V.plus (wr ++ [Cc, D])))) h' h₂ := fun b o e nb => hk23 b o (fun m => nb (.inr (Vo.plus_wr m))) e
      have hi₂ := (S.it (V.plus [Cc, D])).move (i + 1) σ₁ ow₁ _ h₂ tk₂ hi' (by rw [e3]; exact g') fun b o hb e => hk₂ b o (fun q => Cw (by rw [← q]; exact hb (by rw [q]; exact List.mem_append_left _ List.mem_cons_self))) e
      have st₂ : Stp (frs V) (Own σ ow) (Own σ₁ ow₁) s { s₁ with heap := h₂, toks := tk₂ } := (st1.its (t := tk) nfs hk3 fr3).its (t := tk₂) nfs hk23 fr3
      have ok₂ : Ok C A false cenv (V.plus (wr ++ [Cc, D])) nms' ρ' σ₁ ow₁ { s₁ with heap := h₂, toks := tk₂ } := by
        refine ⟨g₂, ⟨by rw [cS]; exact hkind, cG, cB, by rw [cL]; exact g₂.off Cc (Vo.plus_wr (List.mem_append_right _ List.mem_cons_self)), fun j x hj => ?_⟩, .inl hh, ?_⟩
        · rcases hρ j x hj with e | ⟨y, val, n1, rv, lo, mv⟩
          · obtain ⟨y, c, val, h1, h2, h3, h4, h5, h6, h7⟩ := cap₂ j x e
            exact ⟨y, val, h1, h2, .inr ⟨c, h3, h4, h5, h6⟩⟩
          · exact ⟨y, val, n1, rv.kp hK₂ (Zg.refl _ _), .inl ⟨by unfold Env.kindOf; rw [cS]; exact lo, m₂, by rw [cL]; exact hns₂, mv⟩⟩
        · rw [cL]
          obtain ⟨o, es, ep, e, _⟩ := hns₂
          exact ⟨o, e⟩
      refine hE.ev A cenv (V.plus (wr ++ [Cc, D])) ρ' cS ha.plus σ₁ ow₁ _ _ eNo _ _ w ok₂ (fun y av σ₃ ow₃ s₃ z₃ st₃ g₃ r₃ => ?_) (fun e c σ₃ ow₃ s₃ z₃ => False.elim z₃)
      have DZ : D ∈ wr ++ [Cc, D] := List.mem_append_right _ (by simp)
      have CZ : Cc ∈ wr ++ [Cc, D] := List.mem_append_right _ (by simp)
      have kpz : ∀ b o, b ∈ wr ++ [Cc, D] → h₂.get? b = some o → s₃.heap.get? b = some o := fun b o hb e => st₃.keep b o e (g₂.off b (Vo.plus_wr hb)) fun z => nfs b z hb
      have hDo₃ := kpz D _ DZ hDo₂
      have z₃' : mU G (tP tb ew (fP caps ρ)) (xs.drop (i + 1)) (acc ++ [av]) σ₃ (pn own Qa) := z₃
      refine append_at (hsz := by rw [List.size_toArray]; unfold sizeLine; omega) hDo₃ fun h₄ hsb hDo₄ => ?_
      have hk₄ : ∀ b o, b ≠ D → s₃.heap.get? b = some o → h₄.get? b = some o := fun b o nb e => (hsb.2 b nb).trans e
      have hk43 : ∀ b o, b ∉ wr ++ [Cc, D] → s₃.heap.get? b = some o → h₄.get? b = some o := fun b o nb e => hk₄ b o (fun q => nb (q ▸ DZ)) e
      have hK₄ : Kp (Zs σ₃ ow₃ (zss (V.plus (wr ++ [Cc, D])))) s₃.heap h₄ := fun b o e nb => hk43 b o (fun m => nb (.inr (Vo.plus_wr m))) e
      have lv₄ : ∀ b ∈ wr ++ [Cc, D], ∃ o, h₄.get? b = some o := fun b hb => by
        by_cases q : b = D
        · subst q; exact ⟨_, hDo₄⟩
        · obtain ⟨o, e⟩ := lv₂ b hb
          exact ⟨o, hk₄ b o q (kpz b o hb e)⟩
      have hi₃ := (S.it (V.plus [Cc, D])).step [] (i + 1) σ₁ ow₁ _ σ₃ ow₃ s₃ hi₂ (by rw [e3]; exact g₂) st₃.toS (by rw [e3]; exact g₃) (zu z₃')
      have hi₄ := (S.it (V.plus [Cc, D])).move (i + 1) σ₃ ow₃ s₃ h₄ s₃.toks hi₃ (by rw [e3]; exact g₃) fun b o hb e => hk₄ b o (fun q => Dw (by rw [← q]; exact hb (by rw [q]; exact List.mem_append_left _ (by simp)))) e
      have hr₃ : VRs C (Zs σ₃ ow₃ (zss (V.plus (wr ++ [Cc, D])))) s₃.heap acc vs := st₃.vrs (((hr.kp (fun b o e nb => hk3 b o (fun m => nb (.inr (Vo.plus_wr m))) e) (Zg.refl _ _) : VRs C _ h' acc vs)).kp hK₂ (Zg.refl _ _))
      refine ⟨xs.length - (i + 1), by omega, i + 1, acc ++ [av], vs ++ [y], σ₃, ow₃, m₂, kk + 1, rfl, hlt, hi₄, g₃.its hk43 lv₄, by rw [hDo₄]; simp, by rw [List.length_append, hvl]; rfl, VRs.append (.cons (r₃.kp hK₄ (Zg.refl _ _)) .nil) (hr₃.kp hK₄ (Zg.refl _ _)), ?_, (cap₂.stp st₃).its hk43, (st₂.trans st₃).its nfs hk43 fr3, z₃'⟩
      exact (hns₂.at' fun o e => kpz Cc o CZ e : s₃.heap.Ns Cc m₂).at' fun o e => hk₄ _ _ (Ne.symm hDC) e
    · have he : i = xs.length := by omega
      subst he
      rw [List.drop_length] at w
      obtain ⟨hG, w⟩ := w
      refine (S.it (V.plus [Cc, D])).done σ₁ ow₁ s₁ _ _ hi e4 (.inl hh) hG fun h' tk hk => ?_
      have g2 : Good C (V.plus [Cc, D]) σ₁ ow₁ { s₁ with heap := h', toks := tk } := e4.drop (fun b hb n => by
        rcases List.mem_append.mp n with n | n
        · rcases List.mem_cons.mp n with n | n
          · exact Cw (n ▸ hb)
          · exact Dw (List.mem_singleton.mp n ▸ hb)
        · exact nits b (List.mem_append_left _ hb) (List.mem_append_right _ n)) hk
      have zg : Zg (Zs σ₁ ow₁ (zss (V.plus (wr ++ [Cc, D])))) (Zs σ₁ ow₁ (zss (V.plus [Cc, D]))) s₁.heap := fun b z => .inl (z.imp id fun z => by
        rcases Vo.plus_mem z with z | z
        · exact Vo.plus_sub b z
        · exact Vo.plus_wr (List.mem_append_right _ z))
      exact fin D Cc σ₁ ow₁ _ ⟨⟨vs, kk, acc, m, w, hk _ _ Dw hDo, hr.kp (fun b o e nb => hk b o (fun m => nb (.inr (Vo.plus_wr (List.mem_append_left _ m)))) e) zg, hns.at' fun o e => hk _ _ Cw e, by omega⟩, g2, st1.its (fun b hb m => nfs b hb (List.mem_append_left _ m)) hk fun b hb => fr3 b (List.mem_append_left _ hb), hDC, fun b hb => fr3 b (List.mem_append_right _ hb)⟩
  rw [← hce] at loop
  exact codeAny_compStart_list loop ((S.it (V.plus [Cc, D])).self 0 σ' ow' _ _ _ hi1 (by rw [e3]; exact g3) loop)
theorem CEnd.val {own : Bool} {Qa : PQ} {D Cc : Addr} {σ₁ : St} {ow₁ : Nat → Option Nat} {s₁ : Shared} (x : CEnd C V own Qa σ ow s D Cc σ₁ ow₁ s₁) (G : Good C V σ ow s) :
    ∃ av σ₂, Qa av σ₂ ∧ Stp (frs V) (Own σ ow) (Own σ₂ ow₁) s s₁ ∧ Good C (V.plus [Cc]) σ₂ ow₁ s₁ ∧ VR C (Zs σ₂ ow₁ (zss (V.plus [Cc]))) s₁.heap av (.ref D) := by
  obtain ⟨⟨vs, kk, acc, m, w, hD, r, _, hz⟩, g, st, ne, fr⟩ := x
  have gD : Good C ((V.plus [Cc]).plus [D]) σ₁ ow₁ s₁ := g.re rfl rfl fun b => by
    show b ∈ [D] ++ ([Cc] ++ V.its) ↔ b ∈ [Cc, D] ++ V.its
    simp only [List.mem_append, List.mem_cons, List.not_mem_nil, or_false]
    constructor
    · rintro (h | h | h)
      · exact .inl (.inr h)
      · exact .inl (.inl h)
      · exact .inr h
    · rintro ((h | h) | h)
      · exact .inr (.inl h)
      · exact .inl h
      · exact .inr (.inr h)
  have zz : ∀ b, Zs σ₁ ow₁ (zss ((V.plus [Cc]).plus [D])) b → Zs σ₁ ow₁ (zss (V.plus [Cc, D])) b := fun b z => z.imp id fun z => by
    rcases Vo.plus_mem z with z | z
    · rcases Vo.plus_mem z with z | z
      · exact Vo.plus_sub b z
      · exact Vo.plus_wr (by rw [List.mem_singleton.mp z]; simp)
    · exact Vo.plus_wr (by rw [List.mem_singleton.mp z]; simp)
  have r' : VRs C (Zs σ₁ ow₁ (zss ((V.plus [Cc]).plus [D]))) s₁.heap acc vs := r.kp (fun _ _ e _ => e) fun b z => .inl (zz b z)
  have frD : s.heap.get? D = Option.none := fr D (by simp)
  have nV : D ∉ zss (V.plus [Cc]) := fun m => by
    rcases Vo.plus_mem m with m | m
    · obtain ⟨_, o, y⟩ := G.mem D m
      rw [frD] at y; cases y
    · exact ne (List.mem_singleton.mp m)
  have nO : ¬ Own σ₁ ow₁ D := gD.off D (Vo.plus_wr (by simp))
  cases own with
  | false => exact ⟨.ilist acc, σ₁, w, st, gD.close_, .ilist ⟨hz, kk, hD⟩ (fun z => z.elim nO nV) (r'.kp (fun _ _ e _ => e) fun b z => .inl (dS z))⟩
  | true =>
    have sD : σ₁ D = Option.none := by
      cases e : σ₁ D with
      | none => rfl
      | some o => exact absurd (.inl (by rw [e]; rfl)) nO
    exact ⟨.obj D, _, w D sD, st.adopt frD, gD.adopt (by simp) nV hD hz r', .obj D⟩
theorem Both.comp {own : Bool} {src : WX} {tb : TB} {caps : List Nat} {ew : WE} {elt iter target : Expr} {scope : Scope} {pos : Pos} (hS : SrcE C d sc nms false target iter src) (hE : Both C d (oY scope sc) nms' false ew elt) (hT : TgtOk C (oY scope sc) nms' target tb)
    (hk : qB scope sc nms nms' caps = true) (hset : mt iter = true) : Both C d sc nms false (mX own src tb caps ew) (.ListComp elt [⟨target, iter, [], 0⟩] scope pos) :=
  .of rfl fun A env V ρ hs ha σ ow s Qa Ea Q E w ok kv kx => by
    rw [eval_ListComp]
    refine qj (use := Option.none) hS hE hT hk hset hs ha w ok kx fun D Cc σ₁ ow₁ s₁ x => ?_
    obtain ⟨av, σ₂, w', st, g, r⟩ := x.val ok.good
    obtain ⟨_, _, _, m, _, _, _, hns, _⟩ := x.ex
    have frC : s.heap.get? Cc = Option.none := x.fr Cc (by simp)
    have nf : ∀ b ∈ V.fs, b ∉ [Cc] := fun b m n => by
      obtain ⟨_, o, y⟩ := ok.good.mem b (V.sub b m)
      rw [List.mem_singleton.mp n, frC] at y; cases y
    have nz : ∀ b ∈ [Cc], b ∉ V.its := fun b m n => by
      obtain ⟨_, o, y⟩ := ok.good.mem b (List.mem_append_right _ n)
      rw [List.mem_singleton.mp m, frC] at y; cases y
    refine ⟨m, hns, fun h' hsb => ?_⟩
    have hk' : ∀ b o, b ∉ [Cc] → s₁.heap.get? b = some o → h'.get? b = some o := fun b o nb e => hsb.extBut b o (fun q => nb (by rw [q]; simp)) e
    exact kv _ _ σ₂ ow₁ _ w' (st.its (t := s₁.toks) nf hk' fun b m => by rw [List.mem_singleton.mp m]; exact frC) (g.drop nz hk') (r.kp (fun b o e nb => hk' b o (fun m => nb (.inr (Vo.plus_wr m))) e) fun b z => .inl (dS z))
noncomputable def xh (scope sc : Scope) (n : Str) (l1 l2 : Nat) : Bool := sc.names.lookup n == some .local && l1 == l2 && !(scope.names.any fun p => p.1 == n && (p.2 == .local || p.2 == .cell))
theorem BothS.assignComp {own : Bool} {src : WX} {tb : TB} {caps : List Nat} {ew : WE} {elt iter target : Expr} {scope : Scope} {pos np spos : Pos} {x : Nat} {n : Str} (hS : SrcE C d sc nms false target iter src) (hE : Both C d (oY scope sc) nms' false ew elt) (hT : TgtOk C (oY scope sc) nms' target tb)
    (hk : qB scope sc nms nms' caps = true) (hset : mt iter = true) (hn : nms[x]? = some n) (hsw : xh scope sc n np.line pos.line = true) :
    BothS C d sc nms false (aw x (mX own src tb caps ew)) (.Assign [.Name n np] (.ListComp elt [⟨target, iter, [], 0⟩] scope pos) spos) where
  snd := fun A env V outer hF hs ha ρ σ ow s Qa Ea Q E w k ks kx => by
    have hsw' : swapsWith (.ListComp elt [⟨target, iter, [], 0⟩] scope pos) (some (.Name n np)) spos.line env = pure true := by
      unfold xh at hsw
      rw [Bool.and_eq_true, Bool.and_eq_true, beq_iff_eq, beq_iff_eq] at hsw
      obtain ⟨⟨h1, h2⟩, h3⟩ := hsw
      have e1 : env.kindOf n = some .local := by unfold Env.kindOf; rw [hs]; exact h1
      have e2 : env.blockKind = .function := by unfold Env.blockKind; rw [hF.kind]; rfl
      show (pure (env.blockKind == .function && env.kindOf n == some .local && np.line == pos.line && !(scope.names.any fun p => p.1 == n && (p.2 == .local || p.2 == .cell))) : Sem Bool) = pure true
      rw [e1, e2, h2, h3, beq_self_eq_true, beq_self_eq_true, beq_self_eq_true]
      rfl
    rw [exec_Assign_Name_used _ _ _ _ hsw']
    refine wpAny_bind (wpAny_standAt (wpAny_bind ?_))
    refine wpAny_bind (wpAny_mono (qj (use := some (PySem.assign (PySem.Expr.Name n np) env)) (Q := fun _ s' => Q .next s') hS hE hT hk hset hs ha w k.ok (kx.toE hF k) fun D Cc σ₁ ow₁ s₁ x => ?_) (fun _ s' hq => wpAny_pure (wpAny_pure hq)) fun _ _ e => e)
    obtain ⟨av, σ₂, w', st, g, r⟩ := x.val k.ok.good
    obtain ⟨_, _, _, m, _, _, _, hns, _⟩ := x.ex
    have frC : s.heap.get? Cc = Option.none := x.fr Cc (by simp)
    have nf : ∀ b ∈ V.fs, b ∉ [Cc] := fun b m n => by
      obtain ⟨_, o, y⟩ := k.ok.good.mem b (V.sub b m)
      rw [List.mem_singleton.mp n, frC] at y; cases y
    have nz : ∀ b ∈ [Cc], b ∉ V.its := fun b m n => by
      obtain ⟨_, o, y⟩ := k.ok.good.mem b (List.mem_append_right _ n)
      rw [List.mem_singleton.mp m, frC] at y; cases y
    have k0 := k.stp hF st g.close_
    have l0 : LocOk C env nms (zss (V.plus [Cc])) (Own σ ow) s.heap ρ := ⟨k.ok.loc.kind, k.ok.loc.glob, k.ok.loc.blt, k.ok.loc.offL, fun j w e => by
      obtain ⟨y, val, ey, ry, ly⟩ := k.ok.loc.val j w e
      refine ⟨y, val, ey, ry.kp (fun _ _ e _ => e) (fun b z => ?_), ly⟩
      rcases z with z | z
      · exact .inl (.inl z)
      · rcases Vo.plus_mem z with z | z
        · exact .inl (.inr z)
        · exact .inr (by rw [List.mem_singleton.mp z]; exact frC)⟩
    have k1 : SOk C A false env (V.plus [Cc]) nms ρ σ₂ ow₁ s₁ := ⟨⟨g, LocOk.stp (envs := V.plus [Cc]) st l0 k.ok.live, .inl k.ok.hnd.none, k0.ok.live⟩, k0.ns, k0.cells⟩
    refine assign_Name (dQ hF.plus hn k1 r fun s'' st' k' => ?_)
    have nO : ¬ Own σ₂ ow₁ Cc := g.off Cc (Vo.plus_wr (by simp))
    refine ⟨m, hns.at' fun o e => st'.keep Cc o e nO fun q => nf Cc q (by simp), fun h' hsb => ?_⟩
    have hk' : ∀ b o, b ∉ [Cc] → s''.heap.get? b = some o → h'.get? b = some o := fun b o nb e => hsb.extBut b o (fun q => nb (by rw [q]; simp)) e
    exact ks _ _ _ σ₂ ow₁ _ w' (SStp.its (t := s''.toks) (st.toS.trans st') nf hk' fun b m => by rw [List.mem_singleton.mp m]; exact frC) (k'.drop hF nz hk') .next
end
end Ap
end
section
set_option genSizeOf false
namespace Ap
open PySem PySem.Calls PyProof.Rows
noncomputable def lQ : ON := fun vs σ Q => ∃ x : Str, vs = [.str x] ∧ x.length ≤ 1000000 ∧ Q (.int x.length) σ
noncomputable def AM : O2 := fun a b σ Q => ∃ (x : Str) (i : Int), a = .str x ∧ b = .int i ∧ (0 ≤ i ∧ i < x.length ∧ x.length ≤ 1000000) ∧ ∀ y : Str, y.length = 1 → Q (.str y) σ
noncomputable def rcS : AV → St → Prop := fun v σ => ∃ x : Str, v = .str x
noncomputable def Bo : OM := fun v vs σ Q => ∃ (x : Str) (ys : List Str), v = .str x ∧ vs = [.ilist (ys.map .str)] ∧ (x.length = 0 ∧ (∀ y ∈ ys, y.length = 1) ∧ ys.length ≤ 1000) ∧ ∀ y : Str, y.length = ys.length → Q (.str y) σ
noncomputable def oList (own : Bool) : ON := fun vs σ Q => ∃ v xs, vs = [v] ∧ dm σ v = some xs ∧ mkL own xs σ Q
noncomputable def uV : O1 := fun v σ Q => ∃ a xs, v = .obj a ∧ σ a = some (.list xs) ∧ Q (.bool true) σ
noncomputable def whN (c : WE) (body : WS) (E : ES) : Nat → Loc → St → QS → Prop
  | 0 => fun _ _ _ => False
  | n + 1 => fun ρ σ Q => c ρ σ (onT fun t σ₂ => match t with
    | true => body ρ σ₂ (kFL (whN c body E n) Q) E
    | false => Q .next ρ σ₂) eNo
noncomputable def sG (c : WE) (body : WS) : WS := fun ρ σ Q E => ∃ n, whN c body E n ρ σ Q
section
variable {C : Cx} {T : Tabs} {P : Prg} {d : Nat} {sc : Scope} {nms : List Str} {q : Bool}
theorem gK {x : Str} (ok : PyData.strOk x = true) {ys : List Nat} (hs : ∀ c ∈ ys, c ∈ x.cps.toList) : PyData.strOk ⟨ys.toArray⟩ = true := by
  unfold PyData.strOk at *
  rw [Array.all_eq_true_iff_forall_mem] at *
  intro c hc
  exact ok c (by rw [← Array.mem_toList_iff]; exact hs c (by simpa using hc))
theorem oQ (x : String) : PyData.strOk (Str.ofString x) = true := by
  unfold PyData.strOk
  rw [Array.all_eq_true_iff_forall_mem]
  intro c hc
  rw [Str.ofString_eq_toList] at hc
  simp at hc
  obtain ⟨ch, _, rfl⟩ := hc
  have h : ch.val.toNat.isValidChar := ch.valid
  unfold Nat.isValidChar at h
  refine decide_eq_true ?_
  show ch.val.toNat < _
  omega
theorem Ax : iM C true (.builtin "len") lQ := by
  intro A envs σ ow s Qa Q E vs vals hq g k r w
  obtain ⟨x, rfl, hl, w⟩ := w
  cases r with | cons r1 r2 =>
  cases r2; cases r1
  exact P.len_str (by omega) (k.val g _ w (.int _ _))
theorem DH : iw C AM := by
  intro A envs σ ow s Qa Q E va vb a b value slice hp g k ra rb w
  obtain ⟨x, i, rfl, rfl, ⟨h0, h1, h2⟩, w⟩ := w
  cases ra with | str _ u ok =>
  cases rb
  have hlt : i.toNat < x.cps.size := by have : x.length = x.cps.size := rfl; omega
  refine tail_any (typeIs_str s x u) slot_str_getitem.lookup (PyProof.Rows.getItem_str (c := x.cps[i.toNat]) (by simp; omega) ?_ (k.val g _ (w _ rfl) (.str _ _ (gK (ys := [x.cps[i.toNat]]) ok (by simp))))) (hp _ _)
  rw [show seqIndex? i x.length = some i.toNat from gW h0 hlt]
  exact Array.getElem?_eq_getElem hlt
theorem Both.ite {c a b : WE} {y z u : Expr} {pos : Pos} (hc : Both C d sc nms q c y) (h1 : Both C d sc nms q a z) (h2 : Both C d sc nms q b u) : Both C d sc nms q (BM c a b) (.IfExp y z u pos) where
  ev := fun A env envs ρ hs ha σ ow s Qa Ea Q E w ok kv kx => by
    refine wpAny_IfExp (hc.tr A env envs ρ hs ha σ ow s _ Ea _ E w ok (fun v t σ' ow' s' z st g r => ?_) kx)
    have r' : t = v := r
    subst r'
    cases t with
    | true => exact h1.ev A env envs ρ hs ha σ' ow' s' _ Ea _ E z (ok.stp st g) (kv.stp st) (kx.stp st g)
    | false => exact h2.ev A env envs ρ hs ha σ' ow' s' _ Ea _ E z (ok.stp st g) (kv.stp st) (kx.stp st g)
  tr := fun A env envs ρ hs ha σ ow s Qa Ea Q E w ok kv kx => by
    rw [arm_isTrue_IfExp]
    refine wpAny_bind (hc.tr A env envs ρ hs ha σ ow s _ Ea _ E w ok (fun v t σ' ow' s' z st g r => ?_) kx)
    have r' : t = v := r
    subst r'
    cases t with
    | true => exact h1.tr A env envs ρ hs ha σ' ow' s' _ Ea _ E z (ok.stp st g) (kv.stp st) (kx.stp st g)
    | false => exact h2.tr A env envs ρ hs ha σ' ow' s' _ Ea _ E z (ok.stp st g) (kv.stp st) (kx.stp st g)
theorem BothS.whil {c : WE} {y : Expr} {body : WS} {xs : List Stmt} {pos : Pos} (hc : Both C d sc nms q c y) (hB : BothB C d sc nms q body xs) : BothS C d sc nms q (sG c body) (.While y xs [] pos) where
  snd := fun A env V outer hF hs ha ρ σ ow s Qa Ea Q E w k ks kx => by
    obtain ⟨n, w⟩ := w
    refine wpAny_While (codeAny_whileLoop (fun m s' => ∃ ρ' σ' ow', whN c body Ea m ρ' σ' Qa ∧ SOk C A q env V nms ρ' σ' ow' s' ∧ SStp (eu env) V.fs (Own σ ow) (Own σ' ow') s s') ?_ n ⟨ρ, σ, ow, w, k, SStp.refl _ _ _ _⟩)
    rintro m s' ⟨ρ', σ', ow', w, k', st⟩
    cases m with
    | zero => exact False.elim w
    | succ m =>
      refine hc.tr A env V ρ' hs ha σ' ow' s' _ _ _ _ w k'.ok (fun v b σ₂ ow₂ s₂ z st₂ g₂ r => ?_) (fun e c σ₂ ow₂ s₂ z => False.elim z)
      have r' : b = v := r
      subst r'
      have k₂ := k'.stp hF st₂ g₂
      have st₂' := st.trans st₂.toS
      cases b with
      | false => exact wpAny_execs_nil (ks _ _ ρ' σ₂ ow₂ s₂ z st₂' k₂ .next)
      | true =>
        refine hB.snd A env V outer hF hs ha ρ' σ₂ ow₂ s₂ _ Ea _ _ z k₂ (fun fl af ρ₃ σ₃ ow₃ s₃ z st₃ k₃ rf => ?_) (fun e c ρ₃ σ₃ ow₃ s₃ z st₃ k₃ th => ?_)
        · cases rf with
          | next => exact ⟨m, Nat.lt_succ_self _, ρ₃, σ₃, ow₃, z, k₃, st₂'.trans st₃⟩
          | ret r' => exact ks _ _ ρ₃ σ₃ ow₃ s₃ z (st₂'.trans st₃) k₃ (.ret r')
        · exact qa hF ha.frames k.ok.good.stays (st₂'.trans st₃) k₃ (ThrA.up (st₂'.back g₂) th) z kx
theorem vO {envs : Vo} {σ : St} {ow : Nat → Option Nat} {s : Shared} {Qa : PQ} {Q : Value → Shared → Prop} {own : Bool} {xs : List AV} {vs : List Value} {h' : Heap} {t n : Nat} (g : Good C envs σ ow s) (k : KV C envs σ ow s (RV C) Qa Q) (e : ∀ b o, s.heap.get? b = some o → h'.get? b = some o) {a : Addr} (na : s.heap.get? a = Option.none)
    (ha : h'.get? a = some (rV vs n)) (hz : vs.length ≤ 16777216) (w : mkL own xs σ Qa) (r : VRs C (Zs σ ow (zss envs)) s.heap xs vs) : Q (.ref a) { s with heap := h', toks := t } := by
  have li : IsL h' a vs := ⟨hz, n, ha⟩
  have nf : a ∉ zss envs := fun m => by
    obtain ⟨_, o, e'⟩ := g.mem _ m
    rw [na] at e'; cases e'
  have no : ¬ Own σ ow a := fun q => by obtain ⟨o, z⟩ := g.live q; rw [na] at z; cases z
  have sx : σ a = Option.none := by
    cases z : σ a with
    | none => rfl
    | some o => exact absurd (.inl (by rw [z]; rfl)) no
  cases own with
  | false => exact k.grown g e w (.ilist li (fun q => q.elim no nf) (r.kp (fun b o z _ => e b o z) (Zg.refl _ _)))
  | true => exact k _ _ _ ow _ (w a sx) (Stp.alloc e na t) (g.alloc (o := .list xs) e na nf ha ⟨vs, li, r.kp (fun b o z _ => e b o z) (rp (.inl na))⟩ t) (.obj _)
theorem zZ {own : Bool} : iM C true (.type "list") (oList own) := by
  intro A envs σ ow s Qa Q E vs vals hq g k r w
  obtain ⟨v, xs, rfl, e, w⟩ := w
  cases r with | cons r1 r2 =>
  cases r2
  obtain ⟨l, vs, rfl, ⟨hz, n, e'⟩, rr, _⟩ := lZ g r1 e
  refine call_list_seq l (.inl rfl) e' rfl rfl (fun h' c' e ha => ?_) (by rw [List.size_toArray]; unfold sizeLine; omega)
  obtain ⟨hh, gg, dd, tt, oo⟩ := s
  exact vO (n := c') g k e (Heap.fresh _) ha hz w rr
theorem EB (X : CxOk C T P) {e : WE} {y : Expr} {n z : Str} {np zp pos : Pos} (he : Both C d sc nms q e y) (hst : df y = true) (hn : n = ("isinstance" : Str)) (hb : n ∈ T.bltN) (h3 : gl sc n = true) (hz : bootBuiltins z = some (tyV .list)) (hb' : z ∈ T.bltN) (h3' : gl sc z = true) :
    Both C d sc nms q (vO1 uV e) (.Call (.Name n np) [y, .Name z zp] [] pos) :=
  .isiG X he hst hn hb h3 (fun A env envs ρ σ ow s Q E hs ok hq => by
    obtain ⟨g1, g2, g3⟩ := ef h3'
    exact bname X (by unfold Env.kindOf; rw [hs]; exact g1) g2 ok hb' g3 hz hq) fun A envs σ ow s Qa Q E v u g k r w => by
    obtain ⟨a, xs, rfl, e, w⟩ := w
    cases r
    obtain ⟨vs, ⟨_, m, hx⟩, _⟩ := g.store _ _ e
    exact IsiPair.list_list hx rfl (k.val g _ w (.bool _))
theorem Ah {Z : Nat → Prop} {h : Heap} : ∀ {ys : List Str} {vs : List Value}, VRs C Z h (ys.map .str) vs → StrsAre vs ys ∧ ∀ y ∈ ys, PyData.strOk y = true := by
  intro ys
  induction ys with
  | nil => intro vs r; cases r; exact ⟨.nil, fun y h => nomatch h⟩
  | cons b bs ih =>
    intro vs r
    cases r with | cons hd tl =>
    cases hd with | str _ t ok =>
    exact ⟨.cons _ _ (ih tl).1, fun y hy => (List.mem_cons.mp hy).elim (fun e => e ▸ ok) ((ih tl).2 y)⟩
theorem Dc (x : Str) (hx : x.length = 0) : ∀ ys : List Str, (Str.join x ys).length = (ys.map (·.length)).sum ∧ ((∀ y ∈ ys, PyData.strOk y = true) → PyData.strOk (Str.join x ys) = true) := by
  intro ys
  have xo : PyData.strOk x = true := by
    unfold PyData.strOk
    rw [Array.all_eq_true_iff_forall_mem, Array.eq_empty_of_size_eq_zero hx]
    intro c hc; cases Array.not_mem_empty _ hc
  induction ys with
  | nil => exact ⟨rfl, fun _ => by unfold Str.join PyData.strOk Str.empty; simp⟩
  | cons y ys ih =>
    cases ys with
    | nil => exact ⟨by simp [Str.join], fun h => h y List.mem_cons_self⟩
    | cons z zs =>
      refine ⟨?_, fun h => ?_⟩
      · show ((y ++ x) ++ Str.join x (z :: zs)).length = _
        rw [Str.length_append, Str.length_append, ih.1, hx, List.map_cons, List.sum_cons]
        rfl
      · exact iA (iA (h y List.mem_cons_self) xo) (ih.2 fun w hw => h w (List.mem_cons_of_mem _ hw))
theorem zN : BmOk C true (Str.ofString "join") rcS Bo := by
  refine ⟨⟨"str", "str.join", ⟨F.plainAttrs_str, F.slot_str_join, F.type_str_join⟩, fun envs σ ow s v u g r w => ?_, fun A envs σ ow s Qa Q E v u vs vals hq g k r rs w => ?_⟩⟩
  · obtain ⟨x, rfl⟩ := w
    cases r
    exact ⟨typeIs_str _ _ _, fun a e => by cases e⟩
  · obtain ⟨x, ys, rfl, rfl, ⟨hx, h1, hl⟩, w⟩ := w
    cases r
    cases rs with | cons r1 r2 =>
    cases r2
    cases r1 with | ilist li off r =>
    obtain ⟨sa, so⟩ := Ah r
    have hsum : (ys.map (·.length)).sum = ys.length := by
      clear w r sa so hl
      induction ys with
      | nil => rfl
      | cons y ys ih => rw [List.map_cons, List.sum_cons, h1 y List.mem_cons_self, ih (fun z hz => h1 z (List.mem_cons_of_mem _ hz)), List.length_cons]; omega
    refine join_list li.isList (by simpa using sa) (by rw [hx, hsum]; omega) fun t' tk => ?_
    have e : Txt.join x ys = Str.join x ys := StrLaws.glued_eq_join x ys
    obtain ⟨j1, j2⟩ := Dc x hx ys
    rw [e]
    exact k.val g tk (w _ (j1.trans hsum)) (.str _ _ (j2 so))
end
end Ap
end
section
set_option genSizeOf false
namespace Ap
open PySem PySem.Calls PyProof.Rows
noncomputable def un2 : AV → Option (AV × AV)
  | .tup [a, b] => some (a, b)
  | _ => Option.none
noncomputable def tb2 (i j : Nat) : TB := fun v ρ => (un2 v).map fun p => cY (cY ρ i p.1) j p.2
noncomputable def mR (xs : List AV) : List AV := xs.zipIdx.map fun p => .tup [.int p.2, p.1]
noncomputable def kXE (K : List AV → (St → Prop) → St → Prop) : List AV → St → Prop := fun vs σ => ∃ xs, vs = [.ilist xs] ∧ K (mR xs) (fun _ => True) σ
noncomputable def xB (es : WL) : WX := fun ρ σ K E => es ρ σ (kXE K) E
noncomputable def Cp (ks : List Str) (Q : PQ) : List AV → St → Prop := fun vs σ => ∀ a, σ a = Option.none → Q (.obj a) (upd σ a (.dictS (ks.zip vs)))
noncomputable def pA (ks : List Str) (es : WL) : WE := fun ρ σ Q E => es ρ σ (Cp ks Q) eNo
section
variable {C : Cx} {T : Tabs} {P : Prg} {d : Nat} {sc : Scope} {nms nms' : List Str} {q : Bool} {A : Around} {V : Vo} {σ σ' : St} {ow ow' : Nat → Option Nat} {s s' : Shared} {env : Env} {outer : List Env}
theorem Av {v : AV} {p : AV × AV} (h : un2 v = some p) : v = .tup [p.1, p.2] := by
  cases v with
  | tup xs =>
    cases xs with
    | nil => cases h
    | cons a xs =>
      cases xs with
      | nil => cases h
      | cons b xs =>
        cases xs with
        | nil => cases h; rfl
        | cons c xs => cases h
  | _ => cases h
theorem vn {Z : Nat → Prop} {h : Heap} {a b : AV} {u : Value} (r : VR C Z h (.tup [a, b]) u) : ∃ t x y, u = .ref t ∧ IsTup h t #[x, y] ∧ VR C Z h a x ∧ VR C Z h b y := by
  cases r with | tup li off r =>
  cases r with | cons r1 r2 =>
  cases r2 with | cons r2 r3 =>
  cases r3
  exact ⟨_, _, _, rfl, li.isTuple, r1, r2⟩
theorem om {cenv : Env} {x y : Str} {px py pos : Pos} {kk : Nat} {t : Addr} {a b : Value} {Q : Unit → Shared → Prop} {E : Value → Shared → Prop} (hh : A.handled = Option.none) (ht : IsTup s.heap t #[a, b])
    (h : ∀ h', (∀ b o, s.heap.get? b = some o → h'.get? b = some o) → wpAny (model C.prog C.w) A (assign (.Name x px) cenv a) (fun _ s₁ => wpAny (model C.prog C.w) A (assign (.Name y py) cenv b) Q E s₁) E { s with heap := h' }) :
    wpAny (model C.prog C.w) A (assign (.Tuple [.Name x px, .Name y py] kk pos) cenv (.ref t)) Q E s := by
  refine assign_Tuple_tuple hh ht rfl rfl fun h' ext => ?_
  refine wpAny_bind (wpAny_holding (wpAny_mono (h h' fun b o e => ext b o (Nat.ne_of_lt (Heap.lt_size e)) e) (fun _ s₁ h₁ => ?_) fun _ _ e => e))
  exact wpAny_bind (wpAny_holding (wpAny_mono h₁ (fun _ s₂ h₂ => wpAny_pure h₂) fun _ _ e => e))
theorem TgtOk.two {scc : Scope} {i j : Nat} {x y : Str} {px py pos : Pos} {kk : Nat} (hk : scc.kind = .function) (hx : nms'[i]? = some x) (hy : nms'[j]? = some y) (hne : x ≠ y) (hl : scc.names.lookup x = some .local) (hl' : scc.names.lookup y = some .local) :
    TgtOk C scc nms' (.Tuple [.Name x px, .Name y py] kk pos) (tb2 i j) := by
  intro A cenv V σ ow s v u m ρ ρ' Q E hh hs hn r e K
  obtain ⟨p, e', rfl⟩ := Option.map_eq_some_iff.mp e
  have := Av e'
  subst this
  obtain ⟨t, a, b, rfl, ht, r1, r2⟩ := vn r
  refine om hh ht fun h' gr => ?_
  refine assign_Name (wpAny_storeName_local (by unfold Env.kindOf; rw [hs]; exact hl) (hn.at' fun o e => gr _ _ e) (fun h₂ hn₂ hsb₂ => ?_) (by rw [hs, hk]; rfl))
  refine assign_Name (wpAny_storeName_local (by unfold Env.kindOf; rw [hs]; exact hl') hn₂ (fun h₃ hn₃ hsb₃ => ?_) (by rw [hs, hk]; rfl))
  refine K h₃ _ _ (fun b o nb e => (hsb₃.2 b nb).trans ((hsb₂.2 b nb).trans (gr b o e))) hn₃ fun k w hj => ?_
  rcases jM hj with ⟨rfl, rfl⟩ | ⟨_, e⟩
  · exact .inr ⟨y, b, hy, r2, hl', if_pos rfl⟩
  · rcases jM e with ⟨rfl, rfl⟩ | ⟨_, e⟩
    · exact .inr ⟨x, a, hx, r1, hl, by rw [if_neg hne, if_pos rfl]⟩
    · exact .inl e
theorem BindP.two (F : FEnv env nms V outer) (hh : A.handled = Option.none) {i j : Nat} {x y : Str} {px py pos : Pos} {kk : Nat} (hx : nms[i]? = some x) (hy : nms[j]? = some y) :
    BindP C A q env V nms (.Tuple [.Name x px, .Name y py] kk pos) (fun v ρ ρ' => ∃ a b, v = .tup [a, b] ∧ ρ' = cY (cY ρ i a) j b) :=
  fun ρ ρ' σ ow s v u Q E k r e K => by
    obtain ⟨a, b, rfl, rfl⟩ := e
    obtain ⟨t, ua, ub, rfl, ht, r1, r2⟩ := vn r
    refine om hh ht fun h' gr => ?_
    have st : Stp (frs V) (Own σ ow) (Own σ ow) s { s with heap := h' } := Stp.ext gr s.toks
    have g := k.ok.good.ext gr s.toks
    have k' := k.stp F st g
    refine assign_Name (dQ F hx k' (st.vr r1) fun s₂ st₂ k₂ => ?_)
    refine assign_Name (dQ F hy k₂ (st₂.vr (st.vr r2)) fun s₃ st₃ k₃ => ?_)
    exact K s₃ ((st.toS.trans st₂).trans st₃) k₃
noncomputable def By (C : Cx) (fp wr : List Addr) (P : Nat → Array Value → Prop) (S : Nat → Heap → Prop) (xs : List AV) (V : Vo) (i : Nat) (σ : St) (ow : Nat → Option Nat) (s : Shared) : Prop :=
  S i s.heap ∧ (∀ b ∈ fp, b ∈ wr ∨ (¬ Zs σ ow (zss (V.plus wr)) b ∧ ∃ o, s.heap.get? b = some o)) ∧ ∀ j x vals, xs[j]? = some x → P j vals → vals.size ≤ 100 ∧ ∃ ys, x = .tup ys ∧ VRs C (Zs σ ow (zss (V.plus wr))) s.heap ys vals.toList
theorem It.ofT {I : Addr} {fp wr : List Addr} {m : Nat} {P : Nat → Array Value → Prop} {S : Nat → Heap → Prop} {Mid : Nat → Addr → Heap → Prop} {xs : List AV} {elts : List Expr} {kk : Nat} {np : Pos} (W : WalksT C.prog C.w A I fp wr m P S Mid) (hm : m = xs.length) (lv : ∀ i h, S i h → ∀ b ∈ wr, ∃ o, h.get? b = some o)
    (item' : ∀ i (s : Shared) (Q : Option Value → Shared → Prop) (E : Value → Shared → Prop), i < m → S i s.heap →
      (∀ T vals h' tk, P i vals → s.heap.objs.size ≤ T → h'.get? T = some (zU vals.toList 0) → Mid i T h' → (∀ b o, b ∉ wr → s.heap.get? b = some o → h'.get? b = some o) → Q (some (.ref T)) { s with heap := h', toks := tk }) →
      wpAny (model C.prog C.w) A (pyNext (.ref I)) Q E s) {G : St → Prop} :
    It C A q (.Tuple elts kk np) V I wr xs G (By C fp wr P S xs V) where
  step := fun X i σ ow s σ' ow' s' h g x g' _ => by
    obtain ⟨h1, h2, h3⟩ := h
    refine ⟨W.frame i _ _ h1 fun b hb o e => ?_, fun b hb => ?_, fun j y v hj hp => ?_⟩
    · rcases h2 b hb with m | ⟨nz, _⟩
      · exact nu g m x e
      · exact x.keep b o e (fun z => nz (.inl z)) fun z => nz (.inr ((V.plus wr).sub b z))
    · rcases h2 b hb with m | ⟨nz, o, e⟩
      · exact .inl m
      · exact .inr ⟨(x.zg (zs := zss (V.plus wr))).not e nz, o, x.keep b o e (fun z => nz (.inl z)) fun z => nz (.inr ((V.plus wr).sub b z))⟩
    · obtain ⟨hz, ys, e, r⟩ := h3 j y v hj hp
      exact ⟨hz, ys, e, SStp.vrs (envs := V.plus wr) x r⟩
  next := fun i y σ ow s Q E hy h g _ K => by
    obtain ⟨h1, h2, h3⟩ := h
    have hi : i < m := by rw [hm]; exact (List.getElem?_eq_some_iff.mp hy).1
    refine item' i s _ E hi h1 fun T vals h' tk hP hsz hT hM hk => ?_
    refine W.go elts kk np i T _ _ E hM fun h₂ hS hk₂ => ?_
    have hk' : ∀ b o, b ∉ wr → s.heap.get? b = some o → h₂.get? b = some o := fun b o nb e => hk₂ b o nb (hk b o nb e)
    have hK : Kp (Zs σ ow (zss (V.plus wr))) s.heap h₂ := fun b o e nb => hk' b o (fun m => nb (.inr (Vo.plus_wr m))) e
    have nT : s.heap.get? T = Option.none := Heap.get?_none_of_le hsz
    have nZ : ¬ Zs σ ow (zss (V.plus wr)) T := by
      rintro (z | z)
      · obtain ⟨o, e⟩ := g.live z
        rw [nT] at e; cases e
      · obtain ⟨_, o, e⟩ := g.mem T z
        rw [nT] at e; cases e
    obtain ⟨hz, ys, rfl, r⟩ := h3 i y vals hy hP
    have nw := W.apart _ _ _ hM
    have hT' : IsT h₂ T vals.toList := ⟨by rw [Array.length_toList]; omega, 0, hk₂ _ _ nw hT⟩
    refine K (.ref T) h₂ tk (.tup hT' nZ (r.kp hK (Zg.refl _ _))) ⟨hS, fun b hb => ?_, fun j z u hj hp => ?_⟩ hk' (lv _ _ hS)
    · rcases h2 b hb with m | ⟨nz, o, e⟩
      · exact .inl m
      · exact .inr ⟨nz, o, hK b o e nz⟩
    · obtain ⟨hz, ys, e, r⟩ := h3 j z u hj hp
      exact ⟨hz, ys, e, r.kp hK (Zg.refl _ _)⟩
  done := fun σ ow s Q E h g hh _ K => by
    rw [← hm] at h
    exact W.done s _ E h.1 fun h' tk hk => K h' tk hk
  move := fun i σ ow s h' tk h g k => by
    obtain ⟨h1, h2, h3⟩ := h
    have hK : Kp (Zs σ ow (zss (V.plus wr))) s.heap h' := fun b o e nb => k b o (fun m => absurd (.inr (Vo.plus_sub b (List.mem_append_right _ m))) nb) e
    refine ⟨W.frame i _ _ h1 fun b hb o e => ?_, fun b hb => ?_, fun j z u hj hp => ?_⟩
    · rcases h2 b hb with m | ⟨nz, _⟩
      · exact k b o (fun _ => m) e
      · exact hK b o e nz
    · rcases h2 b hb with m | ⟨nz, o, e⟩
      · exact .inl m
      · exact .inr ⟨nz, o, hK b o e nz⟩
    · obtain ⟨hz, ys, e, r⟩ := h3 j z u hj hp
      exact ⟨hz, ys, e, r.kp hK (Zg.refl _ _)⟩
  self := fun i σ ow s Q E h g K => W.self i s Q E h.1 K
theorem vZ {e it l : Addr} {items : Array Value} (hei : e ≠ it) (hle : l ≠ e) (hli : l ≠ it) : ∀ i (s : Shared) (Q : Option Value → Shared → Prop) (E : Value → Shared → Prop), i < items.size → ((∃ old, IsEnum s.heap e it i old) ∧ s.heap.IsListIter it l i ∧ s.heap.IsList l items) →
      (∀ T vals h' tk, (∃ t x, items[i]? = some x ∧ vals = #[.int i t, x]) → s.heap.objs.size ≤ T → h'.get? T = some (zU vals.toList 0) → ((∃ x, IsEnumOut h' e it ((i : Int) + 1) x T) ∧ h'.IsListIter it l (i + 1) ∧ h'.IsList l items ∧ T ≠ e ∧ T ≠ it) → (∀ b o, b ∉ [e, it] → s.heap.get? b = some o → h'.get? b = some o) → Q (some (.ref T)) { s with heap := h', toks := tk }) →
      wpAny (model C.prog C.w) A (pyNext (.ref e)) Q E s := fun i s Q E hi hst hQ => by
  obtain ⟨⟨old, he⟩, hit, hl⟩ := hst
  have hx : items[i]? = some items[i] := Array.getElem?_eq_getElem hi
  refine wpAny_pyNext_enum_item he hit hl hx hei fun h' ho hit' hT hsz hk => ?_
  have helt : e < s.heap.objs.size := Heap.lt_size he
  have hilt : it < s.heap.objs.size := by obtain ⟨_, x, _⟩ := hit; exact Heap.lt_size x
  exact hQ s.heap.objs.size #[.int i s.toks, items[i]] h' (s.toks + 1) ⟨_, _, hx, rfl⟩ (Nat.le_refl _) hT
    ⟨⟨_, ho⟩, hit', hl.at fun o x => hk l o hle hli x, Nat.ne_of_gt helt, Nat.ne_of_gt hilt⟩
    fun b o hb x => hk b o (fun e' => hb (by simp [e'])) (fun e' => hb (by simp [e'])) x
theorem SrcI.ofT {I : Addr} {fp wr : List Addr} {P : Nat → Array Value → Prop} {S : Nat → Heap → Prop} {xs : List AV} {elts : List Expr} {kk : Nat} {np : Pos} {G : St → Prop} (it : ∀ V, It C A q (.Tuple elts kk np) V I wr xs G (By C fp wr P S xs V)) (fm : ∀ i h h', S i h → (∀ b ∈ fp, ∀ o, h.get? b = some o → h'.get? b = some o) → S i h') :
    SrcI C A q (.Tuple elts kk np) I wr xs G (By C fp wr P S xs) where
  it := it
  wide := fun V ex i σ ow s h' t h fr gr => by
    obtain ⟨h1, h2, h3⟩ := h
    have zg := pt (V := V) (wr := wr) (σ := σ) (ow := ow) fr
    refine ⟨fm i _ _ h1 fun b _ o e => gr b o e, fun b hb => ?_, fun j y v hj hp => ?_⟩
    · rcases h2 b hb with m | ⟨nz, o, e⟩
      · exact .inl m
      · exact .inr ⟨zg.not e nz, o, gr b o e⟩
    · obtain ⟨hz, ys, e, r⟩ := h3 j y v hj hp
      exact ⟨hz, ys, e, r.kp (fun b o e _ => gr b o e) zg⟩
theorem sX {xs : List AV} {j : Nat} {x : AV} (h : (mR xs)[j]? = some x) : ∃ y, xs[j]? = some y ∧ x = .tup [.int j, y] := by
  unfold mR at h
  rw [List.getElem?_map, Option.map_eq_some_iff] at h
  obtain ⟨p, hp, rfl⟩ := h
  rw [List.getElem?_zipIdx, Option.map_eq_some_iff] at hp
  obtain ⟨y, hy, rfl⟩ := hp
  exact ⟨y, hy, by rw [Nat.zero_add]⟩
theorem SrcE.enum (X : CxOk C T P) {n : Str} {np tp pos : Pos} {elts : List Expr} {kk : Nat} {es : WL} {xs : List Expr} (h : BothL C d sc nms false es xs) (hr : n = (Str.ofString "enumerate")) (hn : n ∈ T.bltN) (h3 : gl sc n = true) : SrcE C d sc nms false (.Tuple elts kk tp) (.Call (.Name n np) xs [] pos) (xB es) where
  snd := fun A env V ρ hs ha σ ow s K Ea Q E w ok kx hQ => by
    obtain ⟨g1, g2, g3⟩ := ef h3
    have hboot : bootBuiltins n = some (.type "enumerate") := by rw [hr]; decide +kernel
    refine wpAny_Call_ofName (bname X (by unfold Env.kindOf; rw [hs]; exact g1) g2 ok hn g3 hboot ?_)
    refine PyProof.Rows.callWith_type (cW h.stars) (cI h.stars (h.snd hs ha σ ow s _ Ea _ E w ok (fun vs avs σ' ow' s' z st g r => ?_) kx))
    obtain ⟨items, rfl, z⟩ := z
    have hh := ok.hnd.none
    obtain ⟨r, hlr⟩ := r
    clear hlr
    cases r with | cons r1 r2 =>
    cases r2
    cases r1 with | ilist li off rr =>
    rename_i l us
    obtain ⟨hz, nn, e0⟩ := id li
    obtain ⟨hp, gg, dd, tt, oo⟩ := s'
    refine call_enumerate_list li.isList fun h' hE hI hsz gr => ?_
    dsimp only at hE hI hsz gr e0 rr off ⊢
    have hlt : l < hp.objs.size := Heap.lt_size e0
    have frI : ∀ c, hp.objs.size ≤ c → hp.get? c = Option.none := fun c hc => Heap.get?_none_of_le hc
    have fr : ∀ c ∈ [hp.objs.size + 1, hp.objs.size], hp.get? c = Option.none ∧ ∃ o, h'.get? c = some o := fun c m => by
      rcases List.mem_cons.mp m with rfl | m
      · exact ⟨frI _ (Nat.le_succ _), _, hE⟩
      · rw [List.mem_singleton.mp m]
        obtain ⟨o, e, _⟩ := hI
        exact ⟨frI _ (Nat.le_refl _), o, e⟩
    have hei : hp.objs.size + 1 ≠ hp.objs.size := Nat.succ_ne_self _
    have hle : l ≠ hp.objs.size + 1 := Nat.ne_of_lt (Nat.lt_succ_of_lt hlt)
    have hli : l ≠ hp.objs.size := Nat.ne_of_lt hlt
    have hL : h'.IsList l us.toArray := li.isList.at fun o e => gr l o e
    have W := WalksT.enumerate (prog := C.prog) (w := C.w) (A := A) hh (hp.objs.size + 1) hp.objs.size l hei hle hli us.toArray
    refine W.self 0 _ _ E ⟨⟨_, hE⟩, hI, hL⟩ ?_
    have ko := (ok.stp st g).open_ (h' := h') (t := tt) (wr := [hp.objs.size + 1, hp.objs.size]) gr fr
    have zg : Zg (Zs σ' ow' (zss V)) (Zs σ' ow' (zss (V.plus [hp.objs.size + 1, hp.objs.size]))) hp := fun b y => by
      rcases y with y | y
      · exact .inl (.inl y)
      · rcases Vo.plus_mem y with y | y
        · exact .inl (.inr y)
        · exact .inr (fr b y).1
    have hlen := rr.length
    have hel : (mR items).length = items.length := by unfold mR; rw [List.length_map, List.length_zipIdx]
    refine hQ _ _ _ _ _ σ' ow' _ z (SrcI.ofT (fun V => It.ofT W (by rw [List.size_toArray, hel, hlen]) (fun i h hS b hb => ?_) (vZ hei hle hli)) W.frame) (st.trans (Stp.ext (s := ⟨hp, gg, dd, tt, oo⟩) gr tt)) ko ⟨⟨⟨_, hE⟩, hI, hL⟩, fun b hb => ?_, fun j x vals hj hp => ?_⟩ (fun c m => st.back rfl g c (fr c m).1) (by rw [hel, hlen]; exact hz)
    · obtain ⟨⟨_, x1⟩, ⟨o, x2, _⟩, _⟩ := hS
      rcases List.mem_cons.mp hb with rfl | hb
      · exact ⟨_, x1⟩
      · rw [List.mem_singleton.mp hb]; exact ⟨o, x2⟩
    · rcases List.mem_cons.mp hb with rfl | hb
      · exact .inl (by simp)
      · rcases List.mem_cons.mp hb with rfl | hb
        · exact .inl (by simp)
        · rw [List.mem_singleton.mp hb]
          exact .inr ⟨zg.not e0 off, _, gr _ _ e0⟩
    · obtain ⟨t, x', hx', rfl⟩ := hp
      obtain ⟨y, hy, rfl⟩ := sX hj
      obtain ⟨u, hu, ru⟩ := rr.get _ _ hy
      have : u = x' := by rw [List.getElem?_toArray, hu] at hx'; cases hx'; rfl
      subst this
      exact ⟨by show 2 ≤ 100; decide, _, rfl, .cons (.int _ _) (.cons (ru.kp (fun b o e _ => gr b o e) zg) .nil)⟩
end
end Ap
end
section
set_option genSizeOf false
namespace Ap
open PySem PySem.Calls PyProof.Rows
section
variable {C : Cx} {T : Tabs} {P : Prg} {d : Nat} {sc : Scope} {nms nms' : List Str} {q : Bool} {A : Around} {V : Vo} {σ σ' : St} {ow ow' : Nat → Option Nat} {s s' : Shared} {env : Env} {outer : List Env}
theorem Good.adoptO {D : Addr} {wr : List Addr} {o : AObj} (G : Good C (V.plus wr) σ ow s) (hD : D ∈ wr) (nV : D ∉ zss V) (rep : ORep C (Zs (upd σ D o) ow (zss V)) ow s.heap D o) : Good C V (upd σ D o) ow s := by
  have nO := G.off D (Vo.plus_wr hD)
  have ow1 : ∀ b, Own (upd σ D o) ow b → Own σ ow b ∨ b = D := fun b z => eZ z
  have zg : Zg (Zs σ ow (zss (V.plus wr))) (Zs (upd σ D o) ow (zss V)) s.heap := fun b z => by
    rcases z with z | z
    · rcases ow1 b z with z | z
      · exact .inl (.inl z)
      · exact .inl (.inr (by rw [z]; exact Vo.plus_wr hD))
    · exact .inl (.inr (Vo.plus_sub b z))
  have oD : ow D = Option.none := by
    cases z : ow D with
    | none => rfl
    | some a => exact absurd (.inr (by rw [z]; rfl)) nO
  refine ⟨G.stays, G.frames, fun b m => G.apart b (List.mem_append_right _ m), fun b m => G.mem b (Vo.plus_sub b m), G.sub, fun b o' eb => ?_, fun b c eb => ?_, fun b eb => ?_, fun L hL z => ?_, G.gens⟩
  · by_cases z : b = D
    · subst z
      rw [gF] at eb
      cases eb
      exact rep
    · rw [cR σ _ z] at eb
      exact (G.store b o' eb).kp (fun _ _ e _ => e) zg rfl fun dx hd => ⟨rfl, hd⟩
  · obtain ⟨x1, x2, x3⟩ := G.parts b c eb
    refine ⟨?_, x2, x3⟩
    rw [cR σ _ (fun q => by subst q; rw [oD] at eb; cases eb)]
    exact x1
  · by_cases z : b = D
    · subst z; exact (G.mem _ (Vo.plus_wr hD)).1
    · rw [cR σ _ z] at eb; exact G.fresh b eb
  · rcases ow1 L z with z | z
    · exact G.off L (Vo.plus_sub L hL) z
    · subst z; exact nV hL
inductive KeysAre : List (Option Expr) → List Str → Prop
  | nil : KeysAre [] []
  | cons {k : Str} {kk : Nat} {p : Pos} {ks : List (Option Expr)} {ys : List Str} : PyData.strOk k = true → KeysAre ks ys → KeysAre (some (.Constant (.str k) kk p) :: ks) (k :: ys)
noncomputable def ni (env : Env) (pos : Pos) : List (Option Expr) → List Expr → List (Sem Value × Sem Value)
  | some k :: ks, v :: vs => (eval k env, do let x ← eval v env; standAt pos; pure x) :: ni env pos ks vs
  | _, _ => []
theorem sU {keys : List (Option Expr)} {ks : List Str} (hk : KeysAre keys ks) (env : Env) (pos : Pos) : ∀ values : List Expr, values.length = ks.length → (evalEachOpt keys env).zip ((evalEach values env).map fun v => do let x ← v; standAt pos; pure x) = (ni env pos keys values).map fun p => (some p.1, p.2) := by
  induction hk with
  | nil => intro values h; cases values with
    | nil => rfl
    | cons v vs => cases h
  | cons _ _ ih =>
    intro values h
    cases values with
    | nil => cases h
    | cons v vs => exact congrArg (List.cons _) (ih vs (Nat.succ.inj h))
theorem vV {keys : List (Option Expr)} {ks : List Str} (hk : KeysAre keys ks) (env : Env) (pos : Pos) : ∀ values : List Expr, values.length = ks.length → (ni env pos keys values).length = ks.length := by
  induction hk with
  | nil => intro values h; rfl
  | cons _ _ ih =>
    intro values h
    cases values with
    | nil => cases h
    | cons v vs => exact congrArg Nat.succ (ih vs (Nat.succ.inj h))
theorem wF {A : Around} {env : Env} {V : Vo} {ρ : Loc} {pos : Pos} (hs : env.scope = sc) (ha : AOk A V d) {es : WL} {xs : List Expr} (h : BothL C d sc nms q es xs) : ∀ {keys : List (Option Expr)} {ks : List Str}, KeysAre keys ks → xs.length = ks.length →
    Snd C A q env V nms ρ (fun Z hp (avs : List AV) (vs : List (Value × Value)) => ∃ us, VRs C Z hp avs us ∧ us.length = ks.length ∧ Carries (strKind C.prog C.w) vs (ks.zip us)) (evalPairs (ni env pos keys xs)) (es ρ) := by
  induction h with
  | nil =>
    intro keys ks hk hl σ ow s Qa Ea Q E w ok kv kx
    cases hk with
      | nil => exact wpAny_pure (kv _ _ σ ow s w (Stp.refl _ _ _) ok.good ⟨[], .nil, rfl, trivial⟩)
      | cons _ _ => cases hl
  | cons h1 h2 _ ih =>
    intro keys ks hk hl σ ow s Qa Ea Q E w ok kv kx
    cases hk with
    | nil => cases hl
    | @cons k kk p keys ks ok1 hk =>
    refine wpAny_bind (wpAny_Constant_str (k := kk) (pos := p) (wpAny_bind (wpAny_holding (wpAny_bind ?_))))
    have st0 : Stp (frs V) (Own σ ow) (Own σ ow) s { s with toks := s.toks + 1 } := Stp.toks _
    have g0 := ok.good.tk (s.toks + 1)
    refine h1.ev A env V ρ hs ha σ ow _ _ Ea _ E w (ok.stp st0 g0) (fun v av σ' ow' s' z st g r => ?_) (kx.stp st0 g0)
    refine wpAny_bind (wpAny_standAt (wpAny_pure (wpAny_bind (wpAny_holding ?_))))
    have st1 := st0.trans st
    refine ih hk (Nat.succ.inj hl) σ' ow' s' _ Ea _ E z (ok.stp st1 g) (fun vs avs σ'' ow'' s'' z' st' g' r' => ?_) (kx.stp st1 g)
    obtain ⟨us, r1, r2, r3⟩ := r'
    exact wpAny_pure (kv _ _ σ'' ow'' s'' z' (st1.trans st') g' ⟨v :: us, .cons (st'.vr r) r1, congrArg Nat.succ r2, strKind_is _ _ _ _, rfl, r3⟩)
theorem qz : ∀ (kvs acc : List (Str × Value)), ((acc ++ kvs).map (·.1)).Nodup → merged acc kvs = acc ++ kvs := by
  intro kvs
  induction kvs with
  | nil => intro acc _; rw [List.append_nil]; rfl
  | cons kv kvs ih =>
    intro acc h
    have e : stored acc kv.1 kv.2 = acc ++ [kv] := by
      unfold stored
      rw [if_neg]
      intro hany
      obtain ⟨p, hp, e⟩ := List.any_eq_true.mp hany
      rw [List.map_append, List.nodup_append] at h
      exact h.2.2 p.1 (List.mem_map.mpr ⟨p, hp, rfl⟩) kv.1 (by simp) (of_decide_eq_true e)
    show merged (stored acc kv.1 kv.2) kvs = _
    rw [e, ih _ (by rw [List.append_assoc]; exact h), List.append_assoc]
    rfl
theorem BU {Z : Nat → Prop} {h : Heap} {ks : List Str} : ∀ {avs : List AV} {us : List Value}, VRs C Z h avs us → DP C Z h (ks.zip avs) (ks.zip us) := by
  induction ks with
  | nil => intro avs us _; exact .nil
  | cons k ks ih =>
    intro avs us r
    cases r with
    | nil => exact .nil
    | cons hd tl => exact .cons hd (ih tl)
theorem Both.dctS (X : CxOk C T P) {ks : List Str} {es : WL} {keys : List (Option Expr)} {xs : List Expr} {pos : Pos} (h : BothL C d sc nms q es xs) (hk : KeysAre keys ks) (hl : xs.length = ks.length) (hl' : ks.length ≤ 15) (hne : ks ≠ []) (hnd : ks.Nodup) : Both C d sc nms q (pA ks es) (.Dict keys xs pos) :=
  .of rfl fun A env V ρ hs ha σ ow s Qa Ea Q E w ok kv kx => by
    have pl := vV hk env pos xs hl
    refine wpAny_Dict_pairs (knd := strKind C.prog C.w) (sU hk env pos xs hl) (fun e => hne (by rw [e] at pl; exact List.length_eq_zero_iff.mp pl.symm)) (by omega) ?_
    obtain ⟨hp, gg, dd, tt, oo⟩ := s
    have gr : ∀ b o, hp.get? b = some o → (hp.push { cls := .type "dict", data := .dict #[] }).get? b = some o := fun _ _ e => Heap.get?_push_of_some _ e
    have fr : ∀ b ∈ [hp.objs.size], hp.get? b = Option.none ∧ ∃ o, (hp.push { cls := .type "dict", data := .dict #[] }).get? b = some o := fun b m => by
      rw [List.mem_singleton.mp m]
      exact ⟨Heap.fresh _, _, Heap.get?_push_size _ rfl⟩
    have ko := ok.open_ (t := tt) (wr := [hp.objs.size]) gr fr
    refine wF hs (ha.plus (wr := [hp.objs.size])) h hk hl σ ow _ _ eNo _ E w ko (fun vs avs σ' ow' s' z st g r => ?_) (fun e c σ₂ ow₂ s₂ z => False.elim z)
    obtain ⟨us, r1, r2, r3⟩ := r
    obtain ⟨D, hD⟩ : ∃ D, hp.objs.size = D := ⟨_, rfl⟩
    dsimp only at st g r1 ko fr ⊢
    rw [hD] at g r1 ko fr st ⊢
    have frD : hp.get? D = Option.none := (fr D (by simp)).1
    have nO : ¬ Own σ ow D := ko.good.off D (Vo.plus_wr (by simp))
    have nf : ∀ b ∈ V.fs, b ∉ [D] := fun b m n => by
      obtain ⟨_, o, y⟩ := ok.good.mem b (V.sub b m)
      rw [List.mem_singleton.mp n] at y
      have y' : hp.get? D = some o := y
      rw [frD] at y'; cases y'
    have hdict : (hp.push { cls := .type "dict", data := .dict #[] }).DictOf (strKind C.prog C.w) D [] := by rw [← hD]; exact Heap.DictOf.new _
    have hdict' : s'.heap.DictOf (strKind C.prog C.w) D [] := by
      obtain ⟨o, es, ep, e, x⟩ := hdict
      exact ⟨o, es, ep, st.keep D o e nO fun z => nf D z (by simp), x⟩
    have nV : D ∉ zss V := fun m => by
      obtain ⟨_, o, y⟩ := ok.good.mem D m
      have y' : hp.get? D = some o := y
      rw [frD] at y'; cases y'
    refine ⟨ks.zip us, r3, hdict', fun h' hm hsb => ?_⟩
    have hkeys : (ks.zip us).map (·.1) = ks := by
      rw [List.map_fst_zip]; omega
    rw [qz _ [] (by rw [List.nil_append, hkeys]; exact hnd), List.nil_append] at hm
    have hk' : ∀ b o, b ∉ [D] → s'.heap.get? b = some o → h'.get? b = some o := fun b o nb e => (hsb.2 b fun q => nb (by rw [q]; simp)).trans e
    have lvD : ∃ o, h'.get? D = some o := by obtain ⟨o, e, _⟩ := DictOf.clsn hm; exact ⟨o, e⟩
    have g2 := g.its (t := s'.toks + vs.length) hk' fun b hb => by rw [List.mem_singleton.mp hb]; exact lvD
    have sD : σ' D = Option.none := by
      cases e : σ' D with
      | none => rfl
      | some o => exact absurd (.inl (by rw [e]; rfl)) (g.off D (Vo.plus_wr (by simp)))
    have zg : Zg (Zs σ' ow' (zss (V.plus [D]))) (Zs (upd σ' D (.dictS (ks.zip avs))) ow' (zss V)) s'.heap := fun b z => by
      rcases z with z | z
      · rcases eZ z with z | z
        · exact .inl (.inl z)
        · exact .inl (.inr (by rw [z]; exact Vo.plus_wr (by simp)))
      · exact .inl (.inr (Vo.plus_sub b z))
    have r1' := r1.kp (fun b o e nb => hk' b o (fun m => nb (.inr (Vo.plus_wr m))) e) zg
    have nsys : (D == sysModules) = false := by
      have big := ok.good.big X
      exact beq_eq_false_iff_ne.mpr (fun e => by have : hp.objs.size = sysModules := hD.trans e; dsimp only at big; rw [this] at big; exact absurd big (by decide))
    have g3 := g2.adoptO (o := .dictS (ks.zip avs)) (by simp) nV ((dkS C).put hm nsys (BU r1'))
    have st1 : Stp (frs V) (Own σ ow) (Own σ' ow') ⟨hp, gg, dd, tt, oo⟩ s' := (Stp.ext gr tt).trans st
    have st2 : Stp (frs V) (Own σ ow) (Own σ' ow') ⟨hp, gg, dd, tt, oo⟩ { s' with heap := h', toks := s'.toks + vs.length } := st1.its nf hk' fun b m => by rw [List.mem_singleton.mp m]; exact frD
    exact kv _ _ _ ow' _ (z D sD) (st2.adopt frD) g3 (.obj D)
end
end Ap
end
section
set_option genSizeOf false
namespace Ap
open PySem PySem.Calls PyProof.Rows
noncomputable abbrev aJ : O2 := AS AV.str AObj.dictS
noncomputable abbrev wC : OC := DD AV.int AObj.dictI
noncomputable abbrev vv : OC := AT AV.int AObj.dictI
noncomputable abbrev ve (o i e : WE) : WS := nK AV.int AObj.dictI o i e
noncomputable abbrev pV (o i e : WE) : WS := nK AV.str AObj.dictS o i e
section
variable {C : Cx} {T : Tabs} {P : Prg} {d : Nat} {sc : Scope} {nms : List Str} {q : Bool}
theorem bj : iw C aJ := Ed (dkS C)
theorem vo : CmpSnd C .In wC := AK (dkI C)
theorem sI : CmpSnd C .NotIn vv := xl (dkI C)
theorem BothS.setI {o i e : WE} {ov iv v : Expr} {np pos : Pos} (ho : Both C d sc nms q o ov) (hi : Both C d sc nms q i iv) (he : Both C d sc nms q e v) (hc : fn v = true) : BothS C d sc nms q (ve o i e) (.Assign [.Subscript ov iv np] v pos) := BothS.setItem (dkI C) ho hi he hc
theorem BothS.setS {o i e : WE} {ov iv v : Expr} {np pos : Pos} (ho : Both C d sc nms q o ov) (hi : Both C d sc nms q i iv) (he : Both C d sc nms q e v) (hc : fn v = true) : BothS C d sc nms q (pV o i e) (.Assign [.Subscript ov iv np] v pos) := BothS.setItem (dkS C) ho hi he hc
theorem qn : bootBuiltins (Str.ofString "list") = some (tyV .list) := by decide +kernel
theorem lK : BiOk C true (Str.ofString "len") lQ := ⟨⟨_, by decide +kernel, .inl ⟨_, rfl⟩, Ax⟩⟩
theorem pz {own : Bool} : BiOk C true (Str.ofString "list") (oList own) := ⟨⟨_, by decide +kernel, .inr ⟨_, rfl⟩, zZ⟩⟩
end
end Ap
end
section
namespace Ap
open PySem
section
variable {F : Calls} {ρ : Loc} {σ : St} {Q : PQ} {E : PE} {QQ : QS} {EE : ES} {K : Bool → Prop} {KX : List AV → (St → Prop) → St → Prop} {G : St → Prop} {a b c e : WE} {es : WL} {src : WX} {A B : WS} {l n m i j : Nat} {x y : Int} {u v : AV} {vs xs ys : List AV} {D : List (Int × AV)} {M : List (Str × AV)} {z : Bool} {caps : List Nat} {tb : TB} {f : OM} {rc : AV → St → Prop}
theorem kq : zE true Q vs σ = ∀ a, σ a = Option.none → Q (.obj a) (upd σ a (.list vs)) := rfl
theorem xZ : vH ρ σ Q E = ∀ a, σ a = Option.none → Q (.obj a) (upd σ a (.dictI [])) := rfl
theorem ug {ks : List Str} : pA ks es ρ σ Q E = es ρ σ (Cp ks Q) eNo := rfl
theorem uN {ks : List Str} : Cp ks Q vs σ = ∀ a, σ a = Option.none → Q (.obj a) (upd σ a (.dictS (ks.zip vs))) := rfl
theorem lM : vBm rc f e es ρ σ Q E = e ρ σ (kBm rc f es ρ Q E) E := rfl
theorem eE : Cy f v Q vs σ = f v vs σ Q := rfl
theorem fH (h : rc v σ) : kBm rc f es ρ Q E v σ = es ρ σ (Cy f v Q) E := propext ⟨fun h => h.2, fun w => ⟨h, w⟩⟩
theorem dy (h : σ l = some (.list xs)) (h' : xs.length ≤ 1000000) : cb (.obj l) [v] σ Q = Q .none (upd σ l (.list (xs ++ [v]))) := propext ⟨fun ⟨_, _, _, e1, e2, e3, _, q⟩ => by cases e1; cases e2; rw [h] at e3; cases e3; exact q, fun q => ⟨_, _, _, rfl, rfl, h, h', q⟩⟩
theorem Bl (h : σ l = some (.dictI D)) (h1 : aW D x = some v) (h' : D.length ≤ 1000000) : sR (.obj l) [.int x] σ Q = Q v (upd σ l (.dictI (eY x D))) := propext ⟨fun ⟨_, _, _, _, e1, e2, e3, e4, _, q⟩ => by cases e1; cases e2; rw [h] at e3; cases e3; rw [h1] at e4; cases e4; exact q, fun q => ⟨_, _, _, _, rfl, rfl, h, h1, h', q⟩⟩
theorem aA {k : Str} (h : σ l = some (.dictS M)) (h1 : aW M k = some v) : aJ (.obj l) (.str k) σ Q = Q v σ := propext ⟨fun ⟨_, _, _, _, e1, e2, e3, e4, q⟩ => by cases e1; cases e2; rw [h] at e3; cases e3; rw [h1] at e4; cases e4; exact q, fun q => ⟨_, _, _, _, rfl, rfl, h, h1, q⟩⟩
theorem vh (h : σ l = some (.dictI D)) : wC (.int x) (.obj l) σ K = K (jT D x) := propext ⟨fun ⟨_, _, _, e1, e2, e3, q⟩ => by cases e1; cases e2; rw [h] at e3; cases e3; exact q, fun q => ⟨_, _, _, rfl, rfl, h, q⟩⟩
theorem yE (h : σ l = some (.dictI D)) : vv (.int x) (.obj l) σ K = K (!jT D x) := propext ⟨fun ⟨_, _, _, e1, e2, e3, q⟩ => by cases e1; cases e2; rw [h] at e3; cases e3; exact q, fun q => ⟨_, _, _, rfl, rfl, h, q⟩⟩
theorem yk : ve a b e ρ σ QQ EE = e ρ σ (zW AV.int AObj.dictI a b ρ QQ EE) (kE EE ρ) := rfl
theorem rP : pV a b e ρ σ QQ EE = e ρ σ (zW AV.str AObj.dictS a b ρ QQ EE) (kE EE ρ) := rfl
theorem mJ {κ : Type} [DecidableEq κ] {key : κ → AV} {ob : List (κ × AV) → AObj} : zW key ob a b ρ QQ EE v σ = a ρ σ (Cv key ob b v ρ QQ EE) (kE EE ρ) := rfl
theorem mi {κ : Type} [DecidableEq κ] {key : κ → AV} {ob : List (κ × AV) → AObj} : Cv key ob b v ρ QQ EE u σ = b ρ σ (An key ob v u ρ QQ) (kE EE ρ) := rfl
theorem wR (h : σ l = some (.dictI D)) (h' : D.length ≤ 1000000) : An AV.int AObj.dictI v (.obj l) ρ QQ (.int x) σ = QQ .next ρ (upd σ l (.dictI (co x v D))) := propext ⟨fun ⟨_, _, _, e1, e2, e3, _, q⟩ => by cases e1; cases e2; rw [h] at e3; cases e3; exact q, fun q => ⟨_, _, _, rfl, rfl, h, h', q⟩⟩
theorem rE {k : Str} (h : σ l = some (.dictS M)) (h' : M.length ≤ 1000000) : An AV.str AObj.dictS v (.obj l) ρ QQ (.str k) σ = QQ .next ρ (upd σ l (.dictS (co k v M))) := propext ⟨fun ⟨_, _, _, e1, e2, e3, _, q⟩ => by cases e1; cases e2; rw [h] at e3; cases e3; exact q, fun q => ⟨_, _, _, rfl, rfl, h, h', q⟩⟩
theorem oN : sG c A ρ σ QQ EE = ∃ n, whN c A EE n ρ σ QQ := rfl
noncomputable def kWh (c : WE) (A : WS) (EE : ES) (n : Nat) (ρ : Loc) (QQ : QS) : Bool → St → Prop := fun t σ₂ => match t with
  | true => A ρ σ₂ (kFL (whN c A EE n) QQ) EE
  | false => QQ .next ρ σ₂
theorem pZ : whN c A EE (n + 1) ρ σ QQ = c ρ σ (onT (kWh c A EE n ρ QQ)) eNo := rfl
theorem tZ : kWh c A EE n ρ QQ true σ = A ρ σ (kFL (whN c A EE n) QQ) EE := rfl
theorem pg : kWh c A EE n ρ QQ false σ = QQ .next ρ σ := rfl
theorem qt : qf n src A ρ σ QQ EE = src ρ σ (wZ n A ρ QQ EE) (kE EE ρ) := rfl
theorem nB : wZ n A ρ QQ EE xs G σ = forL G (nh n A EE) xs ρ σ QQ := rfl
theorem lO : kC es ρ σ KX E = es ρ σ (kXR KX) E := rfl
theorem rW : kXR KX [.int y] σ = ((y.natAbs < 2 ^ 60 ∧ y ≤ 1000000) ∧ KX (gp 0 y) (fun _ => True) σ) := propext ⟨fun ⟨_, _, e, h, q⟩ => by cases e; exact ⟨⟨h.2.1, by have := h.2.2; omega⟩, q⟩, fun ⟨h, q⟩ => ⟨_, _, rfl, ⟨by decide, h.1, by have := h.2; omega⟩, q⟩⟩
theorem zY : yF e ρ σ KX E = e ρ σ (kXL KX) E := rfl
theorem yY : xB es ρ σ KX E = es ρ σ (kXE KX) E := rfl
theorem ER : kXE KX [.ilist xs] σ = KX (mR xs) (fun _ => True) σ := propext ⟨fun ⟨_, e, q⟩ => by cases e; exact q, fun q => ⟨_, rfl, q⟩⟩
theorem rU : mX z src tb caps e ρ σ Q E = ((caps.all fun i => (fJ ρ i).isSome) = true ∧ src ρ σ (xG z tb e (fP caps ρ) Q) E) := rfl
theorem nq : xG z tb e ρ Q xs G σ = mU G (tP tb e ρ) xs [] σ (pn z Q) := rfl
theorem oH : pn false Q xs σ = Q (.ilist xs) σ := rfl
theorem yi : pn true Q xs σ = ∀ a, σ a = Option.none → Q (.obj a) (upd σ a (.list xs)) := rfl
theorem qL : tP (tb1 n) e ρ v σ Q = e (cY ρ n v) σ Q eNo := propext ⟨fun ⟨_, e, q⟩ => by cases e; exact q, fun q => ⟨_, rfl, q⟩⟩
theorem Af : tP (tb2 i j) e ρ (.tup [u, v]) σ Q = e (cY (cY ρ i u) j v) σ Q eNo := propext ⟨fun ⟨_, e, q⟩ => by cases e; exact q, fun q => ⟨_, rfl, q⟩⟩
theorem EF : BM c a b ρ σ Q E = c ρ σ (onT (brE a b ρ Q E)) E := rfl
theorem Cb : brE a b ρ Q E true σ = a ρ σ Q E := rfl
theorem Ao (h : σ l = some (.list xs)) : oList z [.obj l] σ Q = mkL z xs σ Q := propext ⟨fun ⟨_, _, e1, e2, q⟩ => by cases e1; have := cQ e2; rw [h] at this; cases this; exact q, fun q => ⟨_, _, rfl, by show (match σ l with | some (.list xs) => some xs | _ => Option.none) = some xs; rw [h], q⟩⟩
theorem yM : mkL false xs σ Q = Q (.ilist xs) σ := rfl
theorem Cz (h : σ l = some (.list xs)) : uV (.obj l) σ Q = Q (.bool true) σ := propext ⟨fun ⟨_, _, _, _, q⟩ => q, fun q => ⟨_, _, rfl, h, q⟩⟩
theorem nF {G : St → Prop} {B : AV → Loc → St → QS → Prop} (I : Nat → Loc → St → Prop) : ∀ (xs : List AV) (k : Nat),
    (∀ i x, xs[i]? = some x → ∀ ρ σ R, I (k + i) ρ σ → (∀ ρ' σ', I (k + i + 1) ρ' σ' → R .next ρ' σ') → G σ ∧ B x ρ σ R) → (∀ ρ σ, I (k + xs.length) ρ σ → G σ ∧ QQ .next ρ σ) → ∀ ρ σ, I k ρ σ → forL G B xs ρ σ QQ := by
  intro xs
  induction xs with
  | nil => intro k _ h2 ρ σ hi; exact h2 ρ σ hi
  | cons x xs ih =>
    intro k h1 h2 ρ σ hi
    refine h1 0 x rfl ρ σ _ hi fun ρ' σ' hi' => ih (k + 1) (fun i y hy ρ σ R hj hR => h1 (i + 1) y hy ρ σ R (by rw [show k + (i + 1) = k + 1 + i by omega]; exact hj) fun ρ' σ' hk => hR ρ' σ' (by rw [show k + 1 + i + 1 = k + (i + 1) + 1 by omega]; exact hk)) (fun ρ σ hj => h2 ρ σ (by rw [List.length_cons, show k + (xs.length + 1) = k + 1 + xs.length by omega]; exact hj)) ρ' σ' hi'
theorem my {G : St → Prop} {B : AV → St → PQ → Prop} {R : List AV → St → Prop} (T : AV → Prop) (hG : G σ) : ∀ (xs acc : List AV), (∀ x ∈ xs, ∀ R : PQ, (∀ y, T y → R y σ) → B x σ R) → (∀ ys : List AV, ys.length = xs.length → (∀ y ∈ ys, T y) → R (acc ++ ys) σ) → mU G B xs acc σ R := by
  intro xs
  induction xs with
  | nil => intro acc _ h; exact ⟨hG, by have := h [] rfl (fun y hy => nomatch hy); rw [List.append_nil] at this; exact this⟩
  | cons x xs ih =>
    intro acc h1 h2
    refine ⟨hG, h1 x List.mem_cons_self _ fun y hy => ih (acc ++ [y]) (fun z hz => h1 z (List.mem_cons_of_mem _ hz)) fun ys e hys => ?_⟩
    rw [List.append_assoc]
    exact h2 (y :: ys) (congrArg Nat.succ e) fun z hz => (List.mem_cons.mp hz).elim (fun q => q ▸ hy) (hys z)
end
end Ap
end
section
namespace Ap
open PySem PySem.Calls PyProof.Rows
noncomputable def GlobOk (C : Cx) (gs : List (Str × AV)) : Prop := ∀ x v, (x, v) ∈ gs → ∃ u, C.mg x = some u ∧ VR C (fun _ => False) C.base v u
noncomputable def sd : ON := fun vs σ Q => ∃ xs, vs = [.tup xs] ∧ Q (.int xs.length) σ
noncomputable def rA : List AV → Option (List Int) := jS fun v => match v with | .int i => some i | _ => Option.none
noncomputable def zQ : OC := fun a b σ K => ∃ x ys ns, a = .int x ∧ b = .tup ys ∧ rA ys = some ns ∧ K (ns.any (· == x))
noncomputable def vc (own : Bool) : O2 := fun a b σ Q => ∃ xs ys, a = .ilist xs ∧ b = .ilist ys ∧ xs.length + ys.length ≤ 1000000 ∧ mkL own (xs ++ ys) σ Q
noncomputable def pU : O2 := fun a b σ Q => ∃ l xs i, a = .obj l ∧ b = .int i ∧ σ l = some (.list xs) ∧ 0 ≤ i ∧ kh Q σ xs[i.toNat]?
section
variable {C : Cx} {T : Tabs} {P : Prg} {F : Calls} {d : Nat} {sc : Scope} {nms : List Str} {q : Bool} {gs : List (Str × AV)}
theorem Both.glob (X : CxOk C T P) (Y : GlobOk C gs) {i : Nat} {x : Str} {v : AV} {pos : Pos} (hm : gs[i]? = some (x, v)) (h3 : gl sc x = true) : Both C d sc nms q (vC v) (.Name x pos) :=
  .of rfl fun A env envs ρ hs ha σ ow s Qa Ea Q E w ok kv kx => by
    obtain ⟨u, e, r⟩ := Y x v (List.mem_of_getElem? hm)
    obtain ⟨g1, g2, g3⟩ := ef h3
    exact gname X (by unfold Env.kindOf; rw [hs]; exact g1) g2 ok e (kv.here ok.good w (ok.good.baseVR r))
theorem zH : iM C true (.builtin "len") sd := by
  intro A envs σ ow s Qa Q E vs vals hq g k r w
  obtain ⟨xs, rfl, w⟩ := w
  cases r with | cons r1 r2 =>
  cases r2
  cases r1 with | tup li off r =>
  refine PyProof.Rows.len_tuple li.isTuple (by have := li.1; rw [List.size_toArray]; omega) ?_
  rw [List.size_toArray, ← r.length]
  exact k.val g _ w (.int _ _)
theorem tX {Z : Nat → Prop} {h : Heap} : ∀ {ys : List AV} {vs : List Value} {ns : List Int}, VRs C Z h ys vs → rA ys = some ns → IntsAre vs ns := by
  intro ys
  induction ys with
  | nil => intro vs ns r e; cases r; cases e; exact .nil
  | cons y ys ih =>
    intro vs ns r e
    cases r with | cons hd tl =>
    obtain ⟨d, e1, e2⟩ := Option.bind_eq_some_iff.mp e
    obtain ⟨ds, e3, rfl⟩ := Option.map_eq_some_iff.mp e2
    cases hd <;> first | cases e1 | skip
    exact .cons _ _ (ih tl e3)
theorem AF : CmpSnd C .In zQ := by
  intro A envs σ ow s K Q E va vb a b hu g ra rb w k
  obtain ⟨x, ys, ns, rfl, rfl, e, w⟩ := w
  cases ra
  cases rb with | tup li off r =>
  exact in_tuple_ints li.isTuple (by rw [List.toList_toArray]; exact tX r e) (k _ s.toks w)
theorem xI {own : Bool} : BinSnd C .Add (vc own) := by
  intro A envs σ ow s Qa Q E va vb a b g k ra rb w
  obtain ⟨xs, ys, rfl, rfl, hl, w⟩ := w
  cases ra with | ilist la offa rra =>
  cases rb with | ilist lb offb rrb =>
  obtain ⟨za, na, ea⟩ := la
  obtain ⟨zb, nb, eb⟩ := lb
  have l1 := rra.length
  have l2 := rrb.length
  refine P.add_list (hl := ea) (hb := eb) ?_ (hsz := ?_)
  · rw [List.append_toArray]
    obtain ⟨hh, gg, dd, tt, oo⟩ := s
    exact qA g k tt (by rw [List.length_append]; omega) w (VRs.append rrb rra)
  · rw [List.size_toArray, List.size_toArray]; unfold sizeLine; omega
theorem xV : iw C pU := by
  intro A envs σ ow s Qa Q E va vb a b value slice hp g k ra rb w
  obtain ⟨l, xs, i, rfl, rfl, hs, h0, w⟩ := w
  cases ra
  cases rb
  obtain ⟨vs, li, r⟩ := g.store l _ hs
  obtain ⟨v, e, w'⟩ := gU w
  obtain ⟨u, e', r'⟩ := r.get _ _ e
  have hlt := (List.getElem?_eq_some_iff.mp e').1
  have hz := li.1
  exact tail_any li.isList.typeIs slot_list_getitem.lookup (wpAny_getItem_list li.isList h0 (by omega) (by rw [List.getElem?_toArray]; exact e') (k.here g w' r')) (hp _ _)
end
noncomputable def nE : Loc → List Nat → List AV → Loc
  | ρ, i :: is, x :: xs => nE (cY ρ i x) is xs
  | ρ, _, _ => ρ
noncomputable def Ct (is : List Nat) (ρ : Loc) (Q : QS) : PQ := fun v σ => ∃ xs, v = .tup xs ∧ xs.length = is.length ∧ Q .next (nE ρ is xs) σ
noncomputable def qD (is : List Nat) (e : WE) : WS := fun ρ σ Q E => e ρ σ (Ct is ρ Q) (kE E ρ)
inductive NamesAre (nms : List Str) : List Expr → List Nat → Prop
  | nil : NamesAre nms [] []
  | cons {n : Str} {p : Pos} {i : Nat} {es : List Expr} {is : List Nat} : nms[i]? = some n → NamesAre nms es is → NamesAre nms (.Name n p :: es) (i :: is)
section
variable {C : Cx} {T : Tabs} {P : Prg} {F : Calls} {d : Nat} {sc : Scope} {nms : List Str} {q : Bool}
theorem NamesAre.len {es : List Expr} {is : List Nat} (h : NamesAre nms es is) (env : Env) : (assignEach es env).length = is.length ∧ (assignEach es env).findIdx? (·.1) = Option.none := by
  induction h with
  | nil => exact ⟨rfl, rfl⟩
  | cons _ _ ih =>
    refine ⟨congrArg Nat.succ ih.1, ?_⟩
    show List.findIdx? (·.1) ((false, _) :: assignEach _ env) = Option.none
    rw [List.findIdx?_cons, ih.2]; rfl
theorem wo {A : Around} {env : Env} {V : Vo} {outer : List Env} {σ : St} {ow : Nat → Option Nat} {Q : Unit → Shared → Prop} {E : Value → Shared → Prop} (hF : FEnv env nms V outer) {es : List Expr} {is : List Nat} (h : NamesAre nms es is) :
    ∀ (xs : List AV) (vs : List Value) (ρ : Loc) (s : Shared), xs.length = is.length → VRs C (Zs σ ow (zss V)) s.heap xs vs → SOk C A q env V nms ρ σ ow s → (∀ s', SStp (eu env) V.fs (Own σ ow) (Own σ ow) s s' → SOk C A q env V nms (nE ρ is xs) σ ow s' → Q () s') →
    wpAny (model C.prog C.w) A (assignInOrder ((assignEach es env).map (·.2)) vs) Q E s := by
  induction h with
  | nil =>
    intro xs vs ρ s hl r k K
    cases xs with
    | cons => cases hl
    | nil =>
      cases r
      exact wpAny_pure (K s (SStp.refl _ _ _ _) k)
  | @cons n p i es is hn _ ih =>
    intro xs vs ρ s hl r k K
    cases r with
    | nil => cases hl
    | cons hd tl =>
      refine wpAny_bind (wpAny_holding (assign_Name (dQ hF hn k hd fun s₂ st₂ k₂ => ?_)))
      exact ih _ _ _ s₂ (Nat.succ.inj hl) (st₂.vrs tl) k₂ fun s' st' k' => K s' (st₂.trans st') k'
theorem BothS.unp {is : List Nat} {es : List Expr} {e : WE} {v : Expr} {kk : Nat} {tp pos : Pos} (he : Both C d sc nms false e v) (hc : ∀ env : Env, swapsWithSole [.Tuple es kk tp] v pos.line env = pure false ∧ swappedStores [.Tuple es kk tp] v env = pure Option.none) (hn : NamesAre nms es is) :
    BothS C d sc nms false (qD is e) (.Assign [.Tuple es kk tp] v pos) where
  snd := fun A env V outer hF hs ha ρ σ ow s Qa Ea Q E w k ks kx => by
    refine Assign_Tuple (he.ev A env V ρ hs ha σ ow s _ _ _ E w k.ok (fun u av σ' ow' s' z st g r => ?_) (kx.toE hF k)) (hc env).1 (hc env).2
    obtain ⟨xs, rfl, hl, z⟩ := z
    have k' := k.stp hF st g
    cases r with | tup at_ off rr =>
    have hlen := rr.length
    refine wpAny_assign_Tuple k.ok.hnd.none at_.isTuple (by rw [(hn.len env).1, List.size_toArray]; omega) (hn.len env).2 fun h' ext => ?_
    have gr : ∀ b o, s'.heap.get? b = some o → h'.get? b = some o := fun b o e => ext b o (Nat.ne_of_lt (Heap.lt_size e)) e
    have st' : Stp (frs V) (Own σ' ow') (Own σ' ow') s' { s' with heap := h' } := Stp.ext gr s'.toks
    have g' := g.ext gr s'.toks
    refine wo hF hn xs _ ρ _ hl (st'.vrs rr) (k'.stp hF st' g') fun s₃ st₃ k₃ => ?_
    exact ks _ _ _ σ' ow' s₃ z ((st.trans st').toS.trans st₃) k₃ .next
theorem sf : BiOk C true (Str.ofString "len") sd := ⟨⟨_, by decide +kernel, .inl ⟨_, rfl⟩, zH⟩⟩
theorem nU : bootBuiltins (Str.ofString "str") = some (tyV .str) := by decide +kernel
theorem yJ {K : PySem.W.Frag} {T : Tabs} {P : Prg} {fa ca : List Addr} {prog : Program} {w : World} {s₁ : Shared} {mg mb : Str → Option Value} {p : Params} (X : K.In s₁.heap) (g : s₁.heap.Ns mainGlobals mg) (b : s₁.heap.Ns builtinsNs mb) (nl : s₁.heap.NoLimit)
    (bt : ∀ x : Str, x ≠ "__name__" → mb x = bootBuiltins x) (D : KDat K T P fa ca) {R : Cx → Prop} (hY : R (pK prog w s₁.heap mg mb T P fa ca))
    (hB : ∀ C, CxOk C T P → R C → ∀ (F : Calls) (d : Nat), bT C P d F → ∀ (f : Nat) (fi : FnI) (ft : FnT), P.fns[f]? = some fi → T.fts[f]? = some ft → BothB C d ft.sc ft.nms fi.quiet (fi.body F) ft.body)
    (hg : s₁.gens = #[]) {f : Nat} {l : Addr} {ns : List Int} (hW : PySem.W.Well p s₁.heap (.ref l) (.list (ns.map fun n => PySem.W.WData.int n))) (hn : ns.length ≤ 63) {d : Nat} (hd : d ≤ 100)
    (hw : wpF P d f [.ilist (ns.map .int)] (fun _ => Option.none) (fun v _ => v = .bool true) fun _ _ => False) :
    codeAny (model prog w) callerA (.call (.ref (fa.getD f 0)) ⟨[.ref l], []⟩) (fun r s' => r = .ok (.ret (.bool true)) ∧ (∀ b o, s₁.heap.get? b = some o → s'.heap.get? b = some o) ∧ s'.os = s₁.os ∧ s'.gens = #[]) s₁ := by
  have CX := AB (prog := prog) (w := w) X g b nl bt D
  have F := zA CX (fun f fi ft h1 h2 => List.all_eq_true.mp D.sh (fi, ft) (vA h1 h2)) (hB _ CX hY) d
  have G : Good (pK prog w s₁.heap mg mb T P fa ca) ⟨[], [], []⟩ (fun _ => Option.none) (fun _ => Option.none) s₁ :=
    ⟨fun _ _ e => e, trivial, fun b m => absurd m (by simp), fun b m => absurd m (by simp [zss]), fun e m => absurd m (by simp), fun a o e => by simp at e, fun b a e => by simp at e, fun a e => by simp at e, fun L m => absurd m (by simp [zss]), hg⟩
  cases hW with
  | list at_ all =>
    have hr := rZ (C := pK prog w s₁.heap mg mb T P fa ca) (Z := Zs (fun _ => Option.none) (fun _ => Option.none) (zss ⟨[], [], []⟩)) all
    have hl := hr.length
    rw [List.length_map] at hl
    refine F f [.ilist (ns.map .int)] [.ref l] _ _ s₁ _ _ _ callerA ⟨[], [], []⟩ hw G ⟨rfl, ?_, ?_⟩ (.inl rfl) (.cons (.ilist ⟨by omega, _, at_⟩ ?_ hr) .nil) (fun v av σ' ow' s' q st g' r => ?_) (fun e c σ' ow' s' q => q.elim)
    · show 1 + claimMargin + 3 * d < recursionLimit
      have : 1 + claimMargin + 300 < recursionLimit := by decide
      omega
    · show 4 + 20 * d + 100 < cLine
      have : 4 + 2000 + 100 < cLine := by decide
      omega
    · rintro (z | z)
      · rcases z with z | z <;> simp at z
      · simp [zss] at z
    · subst q
      cases r
      exact ⟨rfl, fun b o e => g'.stays b o e, st.os, g'.gens⟩
theorem GlobOk.cons {x : Str} {v : AV} {gs : List (Str × AV)} {u : Value} (h : C.mg x = some u) (r : VR C (fun _ => False) C.base v u) (y : GlobOk C gs) : GlobOk C ((x, v) :: gs) := fun x' v' m => by
  rcases List.mem_cons.mp m with e | m
  · cases e; exact ⟨u, h, r⟩
  · exact y x' v' m
theorem GlobOk.nil : GlobOk C [] := fun x v m => nomatch m
end
end Ap
end
section
namespace Ap
open PySem PySem.Calls PyProof.Rows
noncomputable def dI (x : Str) (a b : Nat) : Str := ⟨((x.cps.toList.take b).drop a).toArray⟩
theorem mV (x : Str) (a b : Nat) : (dI x a b).length = min b x.length - a := by
  show (List.toArray _).size = _
  rw [List.size_toArray, List.length_drop, List.length_take]; rfl
noncomputable def uq : O2 := fun a b σ Q => ∃ (x : Str) (i : Int), a = .str x ∧ b = .int i ∧ (0 ≤ i ∧ x.length ≤ 1000000) ∧ Q (.str (dI x 0 i.toNat)) σ
noncomputable def uw : O2 := fun a b σ Q => ∃ (x : Str) (i : Int), a = .str x ∧ b = .int i ∧ (0 ≤ i ∧ x.length ≤ 1000000) ∧ Q (.str (dI x i.toNat x.length)) σ
noncomputable def fY (i : Int) : Str := Str.ofString (toString i)
noncomputable def kf : ON := fun vs σ Q => ∃ i, vs = [.int i] ∧ (0 ≤ i ∧ i < 1000000) ∧ Q (.str (fY i)) σ
section
variable {C : Cx} {T : Tabs} {P : Prg} {F : Calls} {d : Nat} {sc : Scope} {nms : List Str} {q : Bool}
theorem pY (l : List Nat) (a b : Nat) (hb : b ≤ l.length) : ((List.range (b - a)).map fun k => a + k).filterMap (l.toArray[·]?) = (l.take b).drop a := by
  apply List.ext_getElem?
  intro i
  have e : ∀ (m : Nat), a + m ≤ l.length → ((List.range m).map fun k => a + k).filterMap (l.toArray[·]?) = (l.take (a + m)).drop a := by
    intro m
    induction m with
    | zero => intro _; simp
    | succ m ih =>
      intro h
      rw [List.range_succ, List.map_append, List.filterMap_append, ih (by omega)]
      have h1 : l.toArray[a + m]? = some l[a + m] := by rw [List.getElem?_toArray, List.getElem?_eq_getElem (by omega)]
      rw [List.map_cons, List.map_nil, List.filterMap_cons, h1, List.filterMap_nil, ← Nat.add_assoc, List.take_add_one, List.drop_append_of_le_length (by rw [List.length_take]; omega), List.getElem?_eq_getElem (by omega)]
      rfl
  by_cases h : a ≤ b
  · have := e (b - a) (by omega)
    rw [show a + (b - a) = b by omega] at this
    rw [this]
  · rw [show b - a = 0 by omega, List.range_zero, List.map_nil, List.filterMap_nil, List.drop_eq_nil_of_le (by rw [List.length_take]; omega)]
theorem picks (x : Str) (lo hi : Option Int) (h1 : ∀ i, lo = some i → 0 ≤ i) (h2 : ∀ i, hi = some i → 0 ≤ i) :
    ∃ a b : Nat, b ≤ x.length ∧ Builtin.Str.strSliceIndices lo hi 1 x.length = sliceRange (a : Int) (b : Int) 1 ∧ a = min ((lo.getD 0).toNat) x.length ∧ b = min ((hi.getD x.length).toNat) x.length := by
  unfold Builtin.Str.strSliceIndices
  simp only [show ((1 : Int) > 0) = True by simp, if_true]
  refine ⟨min ((lo.getD 0).toNat) x.length, min ((hi.getD x.length).toNat) x.length, Nat.min_le_right _ _, ?_, rfl, rfl⟩
  congr 1
  · cases lo with
    | none => simp
    | some i => have := h1 i rfl; simp only [Option.getD_some]; rw [if_neg (by omega)]; omega
  · cases hi with
    | none => simp
    | some i => have := h2 i rfl; simp only [Option.getD_some]; rw [if_neg (by omega)]; omega
theorem yu {α : Type} (l : List α) {n na nb : Nat} (hl : l.length = n) : (l.take (min nb n)).drop (min na n) = (l.take nb).drop na := by
  by_cases c1 : nb ≤ n
  · rw [Nat.min_eq_left c1]
    by_cases c2 : na ≤ n
    · rw [Nat.min_eq_left c2]
    · rw [List.drop_eq_nil_of_le (by rw [List.length_take]; omega), List.drop_eq_nil_of_le (by rw [List.length_take]; omega)]
  · have m2 : min nb n = n := Nat.min_eq_right (by omega)
    rw [m2, List.take_of_length_le (Nat.le_of_eq hl), List.take_of_length_le (by omega)]
    by_cases c2 : na ≤ n
    · rw [Nat.min_eq_left c2]
    · rw [List.drop_eq_nil_of_le (by omega), List.drop_eq_nil_of_le (by omega)]
theorem tu {A : Around} {envs : Vo} {σ : St} {ow : Nat → Option Nat} {s : Shared} {Qa : PQ} {Q : Value → Shared → Prop} {E : Value → Shared → Prop} {value : Expr} {lower upper : Option Expr} {pp : Pos} {x : Str} {t : Tok} {p1 p2 : Option (Int × Tok)} {sl : Addr} (g : Good C envs σ ow s) (k : KV C envs σ ow s (RV C) Qa Q) (ok : PyData.strOk x = true)
    (h1 : ∀ p, p1 = some p → 0 ≤ p.1) (h2 : ∀ p, p2 = some p → 0 ≤ p.1) (hx : x.length ≤ 1000000) {na nb : Nat} (ha : min (Int.toNat ((p1.map (·.1)).getD 0)) x.length = min na x.length) (hb : min (Int.toNat ((p2.map (·.1)).getD (x.length : Int))) x.length = min nb x.length) (w : Qa (.str (dI x na nb)) σ) (hsl : s.heap.get? sl = some { cls := .type "slice", data := .fields #[partValue p1, partValue p2, .none] }) :
    wpAny (model C.prog C.w) A (subscriptTail value (.Slice lower upper Option.none pp) (.str x t) (.ref sl)) Q E s := by
  refine tail_any (ops := [.ref sl, .str x t]) (typeIs_str _ x t) slot_str_getitem.lookup (wpAny_getItem_str_slice (l := p1) (u := p2) (st := Option.none) ⟨_, hsl, rfl, rfl⟩ rfl ?_) rfl
  obtain ⟨a, b, hbl, e, ea, eb⟩ := picks x (p1.map (·.1)) (p2.map (·.1)) (fun i e => by obtain ⟨p, e', rfl⟩ := Option.map_eq_some_iff.mp e; exact h1 p e') fun i e => by obtain ⟨p, e', rfl⟩ := Option.map_eq_some_iff.mp e; exact h2 p e'
  have e' : slicePicked x p1 p2 Option.none = (List.range (b - a)).map fun k => a + k := by
    unfold slicePicked
    exact e.trans (sliceRange_one a b)
  have hc : (slicePicked x p1 p2 Option.none).filterMap (x.cps[·]?) = (x.cps.toList.take nb).drop na := by
    rw [e']
    have := pY x.cps.toList a b hbl
    rw [show x.cps.toList.toArray = x.cps by simp] at this
    rw [this, ea, eb, ha, hb]
    exact yu _ rfl
  have hk : PyData.strOk ⟨((slicePicked x p1 p2 Option.none).filterMap (x.cps[·]?)).toArray⟩ = true := gK ok fun c hc => by
    obtain ⟨i, _, e⟩ := List.mem_filterMap.mp hc
    exact Array.mem_toList_iff.mpr (Array.mem_of_getElem? e)
  unfold sliceMade
  refine post_val_or_made (fun _ => ?_) fun t' tk => ?_
  · show (List.toArray _).size ≤ sizeLine
    rw [List.size_toArray, hc, List.length_drop, List.length_take]
    have hl : x.cps.toList.length = x.length := rfl
    unfold sizeLine; omega
  · split
    · rename_i hs
      have hl : (slicePicked x p1 p2 Option.none).length = x.length := by simpa using hs
      have hx' : dI x na nb = x := by
        unfold dI
        rw [← hc, e']
        rw [e', List.length_map, List.length_range] at hl
        have : a = 0 ∧ b = x.length ∨ x.length = 0 := by omega
        rcases this with ⟨rfl, rfl⟩ | h0
        · have := pY x.cps.toList 0 x.length (Nat.le_refl _)
          rw [show x.cps.toList.toArray = x.cps by simp] at this
          rw [this, List.drop_zero, List.take_of_length_le (Nat.le_of_eq (show x.cps.toList.length = x.length from rfl))]
        · have hn : x.cps = #[] := Array.eq_empty_of_size_eq_zero h0
          obtain ⟨cs⟩ := x
          cases hn
          simp
      rw [hx'] at w
      exact k.val g tk w (.str _ _ ok)
    · have w' : Qa (.str ⟨((slicePicked x p1 p2 Option.none).filterMap (x.cps[·]?)).toArray⟩) σ := by rw [hc]; exact w
      exact k.val g tk w' (.str _ _ hk)
theorem Both.sliceHiX {e i : WE} {v u : Expr} {pp pos : Pos} (he : Both C d sc nms q e v) (hi : Both C d sc nms q i u) : Both C d sc nms q (vO2 uq e i) (.Subscript v (.Slice Option.none (some u) Option.none pp) pos) :=
  .of rfl fun A env envs ρ hs ha σ ow s Qa Ea Q E w ok kv kx => by
    refine Subscript_ (he.ev A env envs ρ hs ha σ ow s _ Ea _ E w ok (fun va a σ' ow' s' z st g r => ?_) kx)
    refine wpAny_Slice (wpAny_pure (hi.ev A env envs ρ hs ha σ' ow' s' _ Ea _ E z (ok.stp st g) (fun vb b σ'' ow'' s'' z' st' g' r' => wpAny_pure ?_) (kx.stp st g)))
    have r1 := st'.vr r
    obtain ⟨x, i, rfl, rfl, ⟨h0, hx⟩, z'⟩ := z'
    cases r1 with | str _ t hok =>
    cases r' with | int _ t' =>
    have q : ∀ b o', s''.heap.get? b = some o' → (s''.heap.push { cls := .type "slice", data := .fields #[.none, .int i t', .none] }).get? b = some o' := fun _ _ e => Heap.get?_push_of_some _ e
    exact tu (p1 := Option.none) (p2 := some (i, t')) (g'.ext q s''.toks) (((kv.stp st).stp st').stp (Stp.ext q s''.toks)) hok (fun _ e => by cases e) (fun p e => by cases e; exact h0) hx rfl rfl z' (Heap.get?_push_size _ rfl)
theorem Both.sliceLoX {e i : WE} {v u : Expr} {pp pos : Pos} (he : Both C d sc nms q e v) (hi : Both C d sc nms q i u) : Both C d sc nms q (vO2 uw e i) (.Subscript v (.Slice (some u) Option.none Option.none pp) pos) :=
  .of rfl fun A env envs ρ hs ha σ ow s Qa Ea Q E w ok kv kx => by
    refine Subscript_ (he.ev A env envs ρ hs ha σ ow s _ Ea _ E w ok (fun va a σ' ow' s' z st g r => ?_) kx)
    refine wpAny_Slice (hi.ev A env envs ρ hs ha σ' ow' s' _ Ea _ E z (ok.stp st g) (fun vb b σ'' ow'' s'' z' st' g' r' => wpAny_pure (wpAny_pure ?_)) (kx.stp st g))
    have r1 := st'.vr r
    obtain ⟨x, i, rfl, rfl, ⟨h0, hx⟩, z'⟩ := z'
    cases r1 with | str _ t hok =>
    cases r' with | int _ t' =>
    have q : ∀ b o', s''.heap.get? b = some o' → (s''.heap.push { cls := .type "slice", data := .fields #[.int i t', .none, .none] }).get? b = some o' := fun _ _ e => Heap.get?_push_of_some _ e
    exact tu (p1 := some (i, t')) (p2 := Option.none) (g'.ext q s''.toks) (((kv.stp st).stp st').stp (Stp.ext q s''.toks)) hok (fun p e => by cases e; exact h0) (fun _ e => by cases e) hx rfl (nb := x.length) (by simp) z' (Heap.get?_push_size _ rfl)
theorem zS : iM C true (.type "str") kf := by
  intro A envs σ ow s Qa Q E vs vals hq g k r w
  obtain ⟨i, rfl, hi, w⟩ := w
  cases r with | cons r1 r2 =>
  cases r2; cases r1
  refine str_of_int_fit (N := 1000000) (by split <;> omega) (by decide) fun _ => ?_
  exact k.val g _ w (.str _ _ (oQ _))
theorem lA : BiOk C true (Str.ofString "str") kf := ⟨⟨_, by decide +kernel, .inr ⟨_, rfl⟩, zS⟩⟩
end
end Ap
end
section
namespace Ap
open PySem PySem.Calls PyProof.Rows PySem.NumText
noncomputable abbrev ch (c : Nat) : Str := ⟨#[c]⟩
noncomputable abbrev cs (x : Str) : List Nat := x.cps.toList
noncomputable def qU : List AV → Option (List Str) := jS fun v => match v with | .str i => some i | _ => Option.none
noncomputable def xr : OC := fun a b σ K => ∃ x ys ss, a = .str x ∧ b = .tup ys ∧ qU ys = some ss ∧ K (ss.any (· == x))
noncomputable def vp : OC := fun a b σ K => ∃ c y, a = .str (ch c) ∧ b = .str y ∧ K (!((cs y).contains c))
noncomputable def tW : O2 := fun a b σ Q => ∃ (x : Str) (i : Int) (c : Nat), a = .str x ∧ b = .int i ∧ (0 ≤ i ∧ x.length ≤ 1000000) ∧ (cs x)[i.toNat]? = some c ∧ Q (.str (ch c)) σ
noncomputable def tj (x : Str) (c : Nat) : List AV := if c ∈ cs x then [.str (dI x 0 ((cs x).idxOf c)), .str (ch c), .str (dI x ((cs x).idxOf c + 1) x.length)] else [.str x, .str Str.empty, .str Str.empty]
noncomputable def yO : OM := fun v vs σ Q => ∃ (x : Str) (c : Nat), v = .str x ∧ vs = [.str (ch c)] ∧ x.length ≤ 1000000 ∧ Q (.tup (tj x c)) σ
noncomputable def xt (c : Nat) : Prop := 48 ≤ c ∧ c ≤ 57
noncomputable def mM (l : List Nat) : Nat := l.foldl (fun n c => n * 10 + (c - 48)) 0
noncomputable def vw : ON := fun vs σ Q => ∃ x : Str, vs = [.str x] ∧ ((∀ c ∈ cs x, xt c) ∧ cs x ≠ [] ∧ x.length ≤ 100) ∧ Q (.int (mM (cs x) : Nat)) σ
noncomputable def chars (x : Str) : List AV := (cs x).map fun c => .str (ch c)
noncomputable def kXC (K : List AV → (St → Prop) → St → Prop) : PQ := fun v σ => ∃ x : Str, v = .str x ∧ x.length ≤ 1000000 ∧ K (chars x) (fun _ => True) σ
noncomputable def uc (e : WE) : WX := fun ρ σ K E => e ρ σ (kXC K) E
section
variable {C : Cx} {T : Tabs} {P : Prg} {F : Calls} {d : Nat} {sc : Scope} {nms : List Str} {q : Bool}
theorem tB {Z : Nat → Prop} {h : Heap} : ∀ {ys : List AV} {vs : List Value} {ss : List Str}, VRs C Z h ys vs → qU ys = some ss → StrsAre vs ss := by
  intro ys
  induction ys with
  | nil => intro vs ss r e; cases r; cases e; exact .nil
  | cons y ys ih =>
    intro vs ss r e
    cases r with | cons hd tl =>
    obtain ⟨d, e1, e2⟩ := Option.bind_eq_some_iff.mp e
    obtain ⟨ds, e3, rfl⟩ := Option.map_eq_some_iff.mp e2
    cases hd <;> first | cases e1 | skip
    exact .cons _ _ (ih tl e3)
theorem xD : CmpSnd C .In xr := by
  intro A envs σ ow s K Q E va vb a b hu g ra rb w k
  obtain ⟨x, ys, ss, rfl, rfl, e, w⟩ := w
  cases ra
  cases rb with | tup li off r =>
  exact in_tuple_strs li.isTuple (by rw [List.toList_toArray]; exact tB r e) (k _ s.toks w)
theorem CC : iw C tW := by
  intro A envs σ ow s Qa Q E va vb a b value slice hp g k ra rb w
  obtain ⟨x, i, c, rfl, rfl, ⟨h0, h2⟩, hc, w⟩ := w
  cases ra with | str _ u ok =>
  cases rb
  obtain ⟨hlt, e⟩ := List.getElem?_eq_some_iff.mp hc
  have hlt' : i.toNat < x.cps.size := hlt
  refine tail_any (typeIs_str s x u) slot_str_getitem.lookup (PyProof.Rows.getItem_str (c := c) (by have : x.length = x.cps.size := rfl; simp; omega) ?_ (k.val g _ w (.str _ _ (gK (ys := [c]) ok (by intro c' hc'; rw [List.mem_singleton.mp hc']; exact List.mem_of_getElem? hc))))) (hp _ _)
  rw [show seqIndex? i x.length = some i.toNat from gW h0 hlt']
  show x.cps[i.toNat]? = some c
  rw [← Array.getElem?_toList]; exact hc
theorem zq : iM C true (.type "int") vw := by
  intro A envs σ ow s Qa Q E vs vals hq g k r w
  obtain ⟨x, rfl, ⟨hd, hne, hl⟩, w⟩ := w
  cases r with | cons r1 r2 =>
  cases r2; cases r1
  exact PySem.W.KIN.call_text (intText_digits hd hne (by omega)) (by omega) (k.val g _ w (.int _ _))
theorem uX (x : Str) (c i : Nat) : StrLaws.At x (ch c) x.length i ↔ (cs x)[i]? = some c := by
  have hl : (cs x).length = x.length := rfl
  have hc : (ch c).length = 1 := rfl
  constructor
  · rintro ⟨h1, h2⟩
    rw [hc] at h1
    have h3 : x.cps.extract i (i + 1) = #[c] := by simpa [Builtin.Str.subAt, hc] using h2
    have h4 : (x.cps.extract i (i + 1))[0]? = some c := by rw [h3]; rfl
    rw [Array.getElem?_extract] at h4
    rw [Array.getElem?_toList]
    simpa using (show x.cps[i + 0]? = some c by
      split at h4
      · exact h4
      · cases h4)
  · intro h
    obtain ⟨h1, h2⟩ := List.getElem?_eq_some_iff.mp h
    have h1' : i < x.cps.size := h1
    refine ⟨by rw [hc]; omega, ?_⟩
    show (x.cps.extract i (i + 1) == #[c]) = true
    rw [beq_iff_eq]
    apply Array.ext_getElem?
    intro k
    rw [Array.getElem?_extract]
    have h5 : x.cps[i]? = some c := by rw [← Array.getElem?_toList]; exact h
    cases k with
    | zero => simp [h5, h1']; exact ⟨by omega, h2⟩
    | succ k => simp; omega
theorem xK {x : Str} {c : Nat} (h : c ∉ cs x) : Builtin.Str.occurrences x (ch c) 0 x.length 1 = [] := by
  rcases StrLaws.occ_head x (ch c) 1 (Nat.le_refl _) with ⟨e, _⟩ | ⟨i, r, _, ha, _⟩
  · exact e
  · exact absurd (List.mem_of_getElem? ((uX x c i).mp ha)) h
theorem qg {c : Nat} : ∀ {l : List Nat}, c ∈ l → l[l.idxOf c]? = some c ∧ ∀ k, l[k]? = some c → l.idxOf c ≤ k := by
  intro l
  induction l with
  | nil => intro h; cases h
  | cons a l ih =>
    intro h
    rw [List.idxOf_cons]
    cases e : (a == c) with
    | true =>
      have : a = c := beq_iff_eq.mp e
      subst this
      exact ⟨rfl, fun k _ => Nat.zero_le _⟩
    | false =>
      have ne : a ≠ c := beq_eq_false_iff_ne.mp e
      have hm : c ∈ l := (List.mem_cons.mp h).resolve_left (fun q => ne q.symm)
      obtain ⟨h1, h2⟩ := ih hm
      refine ⟨h1, fun k hk => ?_⟩
      cases k with
      | zero => cases hk; exact absurd rfl ne
      | succ k => exact Nat.succ_le_succ (h2 k hk)
theorem vl {x : Str} {c : Nat} (h : c ∈ cs x) : ∃ r, Builtin.Str.occurrences x (ch c) 0 x.length 1 = (cs x).idxOf c :: r := by
  obtain ⟨h1, h2⟩ := qg h
  rcases StrLaws.occ_head x (ch c) 1 (Nat.le_refl _) with ⟨_, hn⟩ | ⟨i, r, e, ha, hn⟩
  · exact absurd ((uX x c _).mpr h1) (hn _)
  · refine ⟨r, ?_⟩
    have l1 := h2 i ((uX x c i).mp ha)
    have l2 : ¬ (cs x).idxOf c < i := fun hl => hn _ hl ((uX x c _).mpr h1)
    rw [e, show i = (cs x).idxOf c by omega]
theorem ye : CmpSnd C .NotIn vp := by
  intro A envs σ ow s K Q E va vb a b hu g ra rb w k
  obtain ⟨c, y, rfl, rfl, w⟩ := w
  cases ra
  cases rb
  refine P.notIn_str ?_
  by_cases h : c ∈ cs y
  · obtain ⟨r, e⟩ := vl h
    rw [e]
    rw [List.contains_iff_mem.mpr h] at w
    exact k _ s.toks w
  · rw [xK h]
    have : (cs y).contains c = false := by
      cases q : (cs y).contains c with
      | false => rfl
      | true => exact absurd (List.contains_iff_mem.mp q) h
    rw [this] at w
    exact k _ s.toks w
theorem oA (x : Str) (a b : Nat) : Builtin.Str.strSub x a b = dI x a b := by
  unfold Builtin.Str.strSub dI
  congr 1
  apply Array.toList_inj.mp
  rw [Array.toList_extract, List.extract_eq_take_drop, List.drop_take]
theorem ri : BmOk C true (Str.ofString "partition") rcS yO := by
  refine ⟨⟨"str", "str.partition", ⟨F.plainAttrs_str, F.slot_str_partition, F.type_str_partition⟩, fun envs σ ow s v u g r w => ?_, fun A envs σ ow s Qa Q E v u vs vals hq g k r rs w => ?_⟩⟩
  · obtain ⟨x, rfl⟩ := w
    cases r
    exact ⟨typeIs_str _ _ _, fun a e => by cases e⟩
  · obtain ⟨x, c, rfl, rfl, hl, w⟩ := w
    cases r with | str _ tx okx =>
    cases rs with | cons r1 r2 =>
    cases r2
    cases r1 with | str _ tc okc =>
    refine call_meets F.slot_str_partition (typeIs_str _ _ _) F.entry_str_partition (F.args_str_partition_2 _ _) (meets_str_partition x (ch c) tx tc rfl (by unfold sizeLine; omega)) ?_
    have oke : PyData.strOk Str.empty = true := by simp [PyData.strOk, Str.empty]
    have okcut : ∀ a b, PyData.strOk (dI x a b) = true := fun a b => gK okx fun c hc => List.mem_of_mem_take (List.mem_of_mem_drop hc)
    obtain ⟨hh, gg, dd, tt, oo⟩ := s
    by_cases h : c ∈ cs x
    · obtain ⟨r, e⟩ := vl h
      unfold tj at w
      rw [if_pos h] at w
      rw [e]
      dsimp only
      rw [oA, oA]
      exact k.pushed g _ w (.tup ⟨Nat.le_of_ble_eq_true rfl, _, Heap.get?_push_size _ rfl⟩ g.newZ (.cons (.str _ _ (okcut _ _)) (.cons (.str _ _ okc) (.cons (.str _ _ (okcut _ _)) .nil))))
    · unfold tj at w
      rw [if_neg h] at w
      rw [xK h]
      dsimp only
      exact k.pushed g _ w (.tup ⟨Nat.le_of_ble_eq_true rfl, _, Heap.get?_push_size _ rfl⟩ g.newZ (.cons (.str _ _ okx) (.cons (.str _ _ oke) (.cons (.str _ _ oke) .nil))))
theorem SrcE.chars {e : WE} {v : Expr} {nm : Str} {pp : Pos} (he : Both C d sc nms false e v) : SrcE C d sc nms false (.Name nm pp) v (uc e) where
  snd := fun A env V ρ hs ha σ ow s K Ea Q E w ok kx hQ => by
    refine he.ev A env V ρ hs ha σ ow s _ _ _ E w ok (fun u av σ' ow' s' z st g r => ?_) kx
    obtain ⟨x, rfl, hl, z⟩ := z
    cases r with | str _ t okx =>
    obtain ⟨hh, gg, dd, tt, oo⟩ := s'
    have hx : (cs x).length = x.length := rfl
    have nI : hh.get? hh.objs.size = Option.none := Heap.fresh _
    have fin : ∀ (o : Obj) (S : Nat → Heap → Prop), Walks C.prog C.w A hh.objs.size [hh.objs.size] [hh.objs.size] x.cps.size (SignAt x) S → (∀ i h, S i h → ∀ b ∈ [hh.objs.size], ∃ o, h.get? b = some o) → S 0 (hh.push o) → Q (.ref hh.objs.size) { heap := hh.push o, gens := gg, drawn := dd, toks := tt, os := oo } := fun o S W' lv h0 => by
      have gr : ∀ b o', hh.get? b = some o' → (hh.push o).get? b = some o' := fun _ _ e => Heap.get?_push_of_some _ e
      have fr : ∀ c ∈ [hh.objs.size], hh.get? c = Option.none ∧ ∃ o', (hh.push o).get? c = some o' := fun c m => by
        rw [List.mem_singleton.mp m]
        exact ⟨nI, lv 0 _ h0 _ (List.mem_singleton.mpr rfl)⟩
      have ko := (ok.stp st g).open_ (t := tt) (wr := [hh.objs.size]) gr fr
      refine hQ _ _ _ _ _ σ' ow' _ z (SrcI.ofW W' (by unfold Ap.chars; rw [List.length_map]; rfl) lv) (st.trans (Stp.ext gr tt)) ko ⟨h0, fun c hc => .inl hc, fun j y v hj hp => ?_⟩ (fun c m => st.back rfl g c (fr c m).1) (by unfold Ap.chars; rw [List.length_map]; omega)
      obtain ⟨c, u, hc, rfl⟩ := hp
      unfold Ap.chars at hj
      rw [List.getElem?_map, Option.map_eq_some_iff] at hj
      obtain ⟨c', hc', rfl⟩ := hj
      rw [Array.getElem?_toList, hc] at hc'
      cases hc'
      exact .str _ _ (gK (ys := [c]) okx (by intro c' h'; rw [List.mem_singleton.mp h']; exact Array.mem_toList_iff.mpr (Array.mem_of_getElem? hc)))
    have lv : ∀ (T : String) (i : Nat) (h : Heap), h.IsStrIter hh.objs.size T x t i → ∀ b ∈ [hh.objs.size], ∃ o, h.get? b = some o := fun T i h e b hb => by
      rw [List.mem_singleton.mp hb]
      obtain ⟨o, e, _⟩ := e
      exact ⟨o, e⟩
    cases ha : x.cps.all (· < 128)
    · exact wpAny_pyIter_wide ha (fin _ _ (Walks.strWide ok.hnd.none _ x t) (lv _) ⟨_, Heap.get?_push_size _ rfl, rfl, rfl⟩)
    · exact wpAny_pyIter_ascii ha (fin _ _ (Walks.strAscii ok.hnd.none _ x t) (lv _) ⟨_, Heap.get?_push_size _ rfl, rfl, rfl⟩)
end
end Ap
end
section
namespace Ap
open PySem PySem.Calls PyProof.Rows
noncomputable def BA (C : Cx) (n : Str) (keys : List Str) : Prop := ∃ a f, C.mg n = some (.ref a) ∧ (a == sysModules) = false ∧ C.base.MapOf (strKind C.prog C.w) a f ∧ ∀ x, (f x).isSome = keys.any (· == x)
noncomputable def GDs (C : Cx) (gds : List (Str × List Str)) : Prop := ∀ n keys, (n, keys) ∈ gds → BA C n keys
noncomputable def kXT (K : List AV → (St → Prop) → St → Prop) : PQ := fun v σ => ∃ xs, v = .tup xs ∧ K xs (fun _ => True) σ
noncomputable def Gm (e : WE) : WX := fun ρ σ K E => e ρ σ (kXT K) E
noncomputable def yC (keys : List Str) (Q : PQ) : PQ := fun v σ => ∃ x, v = .str x ∧ Q (.bool (!(keys.any (· == x)))) σ
noncomputable def xi (keys : List Str) (e : WE) : WE := fun ρ σ Q E => e ρ σ (yC keys Q) E
section
variable {C : Cx} {T : Tabs} {P : Prg} {F : Calls} {d : Nat} {sc : Scope} {nms : List Str} {q : Bool} {gds : List (Str × List Str)}
theorem jA {κ : Type} [DecidableEq κ] {prog : Program} {w : World} {knd : PySem.KeyKind prog w κ} {h h' : Heap} {a : Addr} {f : κ → Option Value} (k : ∀ b o, h.get? b = some o → h'.get? b = some o) (m : h.MapOf knd a f) : h'.MapOf knd a f := by
  obtain ⟨o, es, ep, e, r⟩ := m
  exact ⟨o, es, ep, k _ _ e, r⟩
theorem sz {A : Around} {s : Shared} {x : Str} {t : Tok} {a : Addr} {f : Str → Option Value} {keys : List Str} {Q : Value → Shared → Prop} {E : Value → Shared → Prop} (hs : (a == sysModules) = false) (hm : s.heap.MapOf (strKind C.prog C.w) a f) (hf : (f x).isSome = keys.any (· == x)) (h : Q (.bool (!(keys.any (· == x)))) { s with toks := s.toks + 1 }) :
    wpAny (model C.prog C.w) A (compareOp .NotIn (.str x t) (.ref a)) Q E s :=
  wpAny_notIn_of (strKind_is _ _ _ _) hs hm (by rw [hf]; exact h)
theorem Both.ninG (X : CxOk C T P) (Z : GDs C gds) {i : Nat} {keys : List Str} {e : WE} {l : Expr} {n : Str} {np pos : Pos} (he : Both C d sc nms q e l) (hm : gds[i]? = some (n, keys)) (h3 : gl sc n = true) : Both C d sc nms q (xi keys e) (.Compare l [.NotIn] [.Name n np] pos) where
  ev := fun A env envs ρ hs ha σ ow s Qa Ea Q E w ok kv kx => by
    obtain ⟨a, f, h1, h2, h4, h5⟩ := Z n keys (List.mem_of_getElem? hm)
    obtain ⟨g1, g2, g3⟩ := ef h3
    rw [arm_eval_Compare, markedEach_of_false _ _ _ rfl]
    refine wpAny_bind (he.ev A env envs ρ hs ha σ ow s _ Ea _ E w ok (fun v av σ' ow' s' z st g r => ?_) kx)
    obtain ⟨x, rfl, z⟩ := z
    cases r
    refine chain_last (gname X (by unfold Env.kindOf; rw [hs]; exact g1) g2 (ok.stp st g) h1 ?_)
    exact sz h2 (jA g.stays h4) (h5 x) ((kv.stp st).val g _ z (.bool _))
  tr := fun A env envs ρ hs ha σ ow s Qa Ea Q E w ok kv kx => by
    obtain ⟨a, f, h1, h2, h4, h5⟩ := Z n keys (List.mem_of_getElem? hm)
    obtain ⟨g1, g2, g3⟩ := ef h3
    rw [arm_isTrue_Compare, markedEach_of_false _ _ _ rfl]
    refine wpAny_bind (he.ev A env envs ρ hs ha σ ow s _ Ea _ E w ok (fun v av σ' ow' s' z st g r => ?_) kx)
    obtain ⟨x, rfl, z⟩ := z
    cases r
    refine test_last (gname X (by unfold Env.kindOf; rw [hs]; exact g1) g2 (ok.stp st g) h1 ?_)
    exact sz h2 (jA g.stays h4) (h5 x) (wpAny_truthy_bool (kv _ _ σ' ow' _ z (st.tk _) (g.tk _) rfl))
theorem GDs.nil : GDs C [] := fun _ _ m => nomatch m
theorem GDs.cons {n : Str} {keys : List Str} {gds : List (Str × List Str)} (h : BA C n keys) (y : GDs C gds) : GDs C ((n, keys) :: gds) := fun n' k' m => by
  rcases List.mem_cons.mp m with e | m
  · cases e; exact h
  · exact y n' k' m
theorem xx : BiOk C true (Str.ofString "int") vw := ⟨⟨_, by decide +kernel, .inr ⟨_, rfl⟩, zq⟩⟩
noncomputable def mW : Value → Option Str
  | .str s _ => some s
  | _ => Option.none
theorem wE (x : Str) : ∀ (l : List DictEntry) (keys : List Str), l.map (fun e => mW e.key) = keys.map some → (l.find? fun e => Value.isStrOf x e.key).isSome = keys.any (· == x) := by
  intro l
  induction l with
  | nil => intro keys h; cases keys with | nil => rfl | cons => cases h
  | cons e l ih =>
    intro keys h
    cases keys with
    | nil => cases h
    | cons k keys =>
      obtain ⟨hk, ht⟩ := List.cons.inj h
      have ih := ih keys ht
      obtain ⟨hs, key, val⟩ := e
      cases key <;> first | cases hk | skip
      rw [List.find?_cons, List.any_cons]
      show (match (_ == _) with | true => some _ | false => _).isSome = _
      cases hb : (k == x) with
      | true => rfl
      | false => exact ih
theorem ED {K : PySem.W.Frag} (X : K.In C.base) {n : Str} {a m : Nat} {es : Array DictEntry} {keys : List Str} (hg : C.mg n = some (.ref a)) (ne : (a == sysModules) = false) (hl : K.lookup a = some ⟨.type "dict", Option.none, .dict es m, #[]⟩) (hk : PySem.W.KeysLit C.w.params es.toList) (he : es.toList.map (fun e => mW e.key) = keys.map some) : BA C n keys := by
  refine ⟨a, _, hg, ne, PySem.W.mapOf_K (prog := C.prog) X hl hk, fun x => ?_⟩
  show (findBy Value.isStrOf es x).isSome = _
  unfold findBy
  rw [Option.isSome_map, ← wE x es.toList keys he, ← Array.find?_toList]
theorem SrcE.tup {e : WE} {v : Expr} {nm : Str} {pp : Pos} (he : Both C d sc nms false e v) : SrcE C d sc nms false (.Name nm pp) v (Gm e) where
  snd := fun A env V ρ hs ha σ ow s K Ea Q E w ok kx hQ => by
    refine he.ev A env V ρ hs ha σ ow s _ _ _ E w ok (fun u av σ' ow' s' z st g r => ?_) kx
    obtain ⟨xs, rfl, z⟩ := z
    cases r with | tup li off rr =>
    rename_i l vs
    obtain ⟨hh, gg, dd, tt, oo⟩ := s'
    have hz := li.1
    have hlen := rr.length
    obtain ⟨_, n, hg⟩ := id li
    have hne : l ≠ hh.objs.size := Nat.ne_of_lt (Heap.lt_size hg)
    have nI : hh.get? hh.objs.size = Option.none := Heap.fresh _
    refine wpAny_pyIter_tuple li.isTuple ?_
    have gr : ∀ b o', hh.get? b = some o' → (hh.push { cls := .type "tuple_iterator", data := .fields #[.ref l, .int 0 0] }).get? b = some o' := fun _ _ e => Heap.get?_push_of_some _ e
    have fr : ∀ c ∈ [hh.objs.size], hh.get? c = Option.none ∧ ∃ o', (hh.push { cls := .type "tuple_iterator", data := .fields #[.ref l, .int 0 0] }).get? c = some o' := fun c m => by
      rw [List.mem_singleton.mp m]
      exact ⟨nI, _, Heap.get?_push_size _ rfl⟩
    have ko := (ok.stp st g).open_ (t := tt) (wr := [hh.objs.size]) gr fr
    have zg : Zg (Zs σ' ow' (zss V)) (Zs σ' ow' (zss (V.plus [hh.objs.size]))) hh := fun b y => by
      rcases y with y | y
      · exact .inl (.inl y)
      · rcases Vo.plus_mem y with y | y
        · exact .inl (.inr y)
        · exact .inr (fr b y).1
    refine hQ _ _ _ _ _ σ' ow' _ z (SrcI.ofW (Walks.tuple ok.hnd.none hh.objs.size l hne vs.toArray) (by rw [List.size_toArray]; exact hlen.symm) (fun i h e b hb => ?_)) (st.trans (Stp.ext gr tt)) ko ⟨?_, fun c hc => ?_, fun j y v hj hp => ?_⟩ (fun c m => st.back rfl g c (fr c m).1) (by omega)
    · rw [List.mem_singleton.mp hb]
      obtain ⟨⟨o, e, _⟩, _⟩ := e
      exact ⟨o, e⟩
    · exact ⟨⟨_, Heap.get?_push_size _ rfl, rfl, rfl⟩, ⟨_, gr _ _ hg, rfl, n, rfl⟩⟩
    · rcases List.mem_cons.mp hc with e | hc
      · exact .inl (List.mem_singleton.mpr e)
      · rw [List.mem_singleton.mp hc]
        exact .inr ⟨zg.not hg off, _, gr _ _ hg⟩
    · obtain ⟨u, hu, r1⟩ := (rr.kp (fun b o e _ => gr b o e) zg).get j y hj
      have : v = u := by
        have hp' : vs.toArray[j]? = some v := hp
        rw [List.getElem?_toArray, hu] at hp'
        cases hp'; rfl
      rw [this]; exact r1
end
end Ap
end
section
namespace Ap
open PySem PySem.Calls PyProof.Rows
noncomputable def dG : ON := fun vs σ Q => ∃ l xs, vs = [.obj l] ∧ σ l = some (.list xs) ∧ Q (.int xs.length) σ
section
variable {C : Cx} {T : Tabs} {P : Prg} {d : Nat} {sc : Scope} {nms nms' : List Str} {q : Bool} {A : Around} {V : Vo} {σ σ' : St} {ow ow' : Nat → Option Nat} {s s' : Shared} {env : Env}
theorem Al : iM C true (.builtin "len") dG := by
  intro A envs σ ow s Qa Q E vs vals hq g k r w
  obtain ⟨l, xs, rfl, hs, w⟩ := w
  cases r with | cons r1 r2 =>
  cases r2
  cases r1
  obtain ⟨vs, li, rr⟩ := g.store l _ hs
  refine len_list li.isList (by have := li.1; rw [List.size_toArray]; omega) ?_
  rw [List.size_toArray, ← rr.length]
  exact k.val g _ w (.int _ _)
theorem cZ : BiOk C true (Str.ofString "len") dG := ⟨⟨_, by decide +kernel, .inl ⟨_, rfl⟩, Al⟩⟩
end
end Ap
end
section
namespace Ap
open PySem
section
variable {F : Calls} {ρ : Loc} {σ : St} {Q : PQ} {E : PE} {QQ : QS} {EE : ES} {K : Bool → Prop} {a b c e : WE} {l n m i j : Nat} {x y : Int} {u v : AV} {vs xs ys : List AV} {t : Ty}
theorem qr {is : List Nat} : qD is e ρ σ QQ EE = e ρ σ (Ct is ρ QQ) (kE EE ρ) := rfl
theorem fK {is : List Nat} (h : xs.length = is.length) : Ct is ρ QQ (.tup xs) σ = QQ .next (nE ρ is xs) σ := propext ⟨fun ⟨_, e, _, q⟩ => by cases e; exact q, fun q => ⟨_, rfl, h, q⟩⟩
theorem du : nE ρ [] [] = ρ := rfl
theorem dj {is : List Nat} : nE ρ (i :: is) (v :: vs) = nE (cY ρ i v) is vs := rfl
theorem xw : sd [.tup xs] σ Q = Q (.int xs.length) σ := propext ⟨fun ⟨_, e, q⟩ => by cases e; exact q, fun q => ⟨_, rfl, q⟩⟩
theorem Dk {ns : List Int} (h : rA ys = some ns) : zQ (.int x) (.tup ys) σ K = K (ns.any (· == x)) := propext ⟨fun ⟨_, _, _, e1, e2, e3, q⟩ => by cases e1; cases e2; rw [h] at e3; cases e3; exact q, fun q => ⟨_, _, _, rfl, rfl, h, q⟩⟩
theorem BV : vc false (.ilist xs) (.ilist ys) σ Q = (xs.length + ys.length ≤ 1000000 ∧ Q (.ilist (xs ++ ys)) σ) := propext ⟨fun ⟨_, _, e1, e2, h, q⟩ => by cases e1; cases e2; exact ⟨h, q⟩, fun ⟨h, q⟩ => ⟨_, _, rfl, rfl, h, q⟩⟩
theorem rY (h : σ l = some (.list xs)) : pU (.obj l) (.int x) σ Q = (0 ≤ x ∧ kh Q σ xs[x.toNat]?) := propext ⟨fun ⟨_, _, _, e1, e2, e3, q⟩ => by cases e1; cases e2; rw [h] at e3; cases e3; exact q, fun q => ⟨_, _, _, rfl, rfl, h, q⟩⟩
theorem AD {s : Str} : uq (.str s) (.int x) σ Q = ((0 ≤ x ∧ s.length ≤ 1000000) ∧ Q (.str (dI s 0 x.toNat)) σ) := propext ⟨fun ⟨_, _, e1, e2, q⟩ => by cases e1; cases e2; exact q, fun q => ⟨_, _, rfl, rfl, q⟩⟩
theorem zL {s : Str} : uw (.str s) (.int x) σ Q = ((0 ≤ x ∧ s.length ≤ 1000000) ∧ Q (.str (dI s x.toNat s.length)) σ) := propext ⟨fun ⟨_, _, e1, e2, q⟩ => by cases e1; cases e2; exact q, fun q => ⟨_, _, rfl, rfl, q⟩⟩
theorem rS : kf [.int x] σ Q = ((0 ≤ x ∧ x < 1000000) ∧ Q (.str (fY x)) σ) := propext ⟨fun ⟨_, e, q⟩ => by cases e; exact q, fun q => ⟨_, rfl, q⟩⟩
end
end Ap
end
section
namespace Ap.L13
open PySem PySem.W PySem.Calls PyProof.Rows
noncomputable abbrev pw : Program := PySem.Challenge.pw_uf020020_13
noncomputable abbrev sS (x : String) : Str := Str.ofString x
noncomputable def en (P : Params) (x : String) (t : Tok) (v : Value) : DictEntry := ⟨PyData.keyHash P (Str.ofString x), .str (Str.ofString x) t, v⟩
noncomputable def Dg (l : List Stmt) (i : Nat) : Arguments := match l[i]? with | some (.FunctionDef _ a _ _ _ _ _ _ _ _) => a | _ => default
noncomputable def m0 : Nat := 11
noncomputable def ann : Option Value := (some (.ref 6))
noncomputable def env : Env := { scope := pw.main.scope, locals := mainNs, globals := mainNs, cells := [], code := (.ref 13), frame := some 14 }
noncomputable def B : List Frame := [topFrame ⟨0, 0, 0, 0⟩]
noncomputable def cE : Code := .body (behindTheImports pw) env
noncomputable def S0 (w : World) (os : OsState) : Shared := ⟨boot_heap w.params, ⟨[]⟩, boot_drawn, boot_toks, os⟩
noncomputable def sV (s : String) (n : Tok) : Value := .str (sS s) n
noncomputable def tT (xs : List Value) : Obj := ⟨.type "tuple", none, .seq ⟨xs⟩ 0, ⟨[]⟩⟩
noncomputable def zO : Obj := ⟨.none, none, .fields ⟨[]⟩, ⟨[]⟩⟩
noncomputable def cO (a : String) (a' : Tok) (b : String) (b' c' : Tok) (l n m : Int) (r : Addr) (t : Bool) (q : Int) (r' : Addr) (x1 x2 x3 x4 : Value) (k l' : Int) (d' : Tok) : Obj := ⟨.type "code", none, .fields ⟨[sV a a', sV b b', sV "/claim/cut.py" c', .int l 0, .int n 0, .int 0 0, .int 0 0, .int m 0, .ref r, .bool t, .int q 0, .ref r', x1, x2, x3, x4, .int k 0, .int l' 0, sV "/claim/cut.py" d']⟩, ⟨[]⟩⟩
noncomputable def fO (a b : String) (x : List Stmt) (i : Nat) : Obj := ⟨.none, none, .func { name := sS a, qualname := sS b, params := Dg x i, body := .stmts (cv x i), scope := cw x i, globals := 0, closure := [], defaults := .none, kwdefaults := .none, doc := .none, pyModule := .none, annotations := none, code := .none, closureTuple := .none, builtins := 0 }, ⟨[]⟩⟩
noncomputable def gO (a b : String) (x : List Stmt) (i : Nat) (m : Value) (c : Addr) : Obj := ⟨.type "function", none, .func { name := sS a, qualname := sS b, params := Dg x i, body := .stmts (cv x i), scope := cw x i, globals := 3, closure := [], defaults := .none, kwdefaults := .none, doc := .none, pyModule := m, annotations := none, code := .ref c, closureTuple := .none, builtins := 0 }, ⟨[]⟩⟩
noncomputable def nN (x : Obj) (a b : BT) : BT := .node x a b
noncomputable def lN (x : Obj) : BT := .node x .nil .nil
noncomputable def dK (P : Params) : Obj := tT []
noncomputable def dM (P : Params) : Obj := cO "<module>" 182 "<module>" 183 184 1 0 0 11 false 181 12 .none .none .none .none 185 1 186
noncomputable def dN (P : Params) : Obj := ⟨(.type "frame"), none, .plain, ⟨[(some (.ref 13)), (some (.ref 3)), (some (.ref 3)), none, (some (sV "__main__" 164)), none, (some (.ref 0))]⟩⟩
noncomputable def lf0 : Life := ⟨[], [], [], 0, [], [], false, ⟨[]⟩, [], 0, false, false, false, 0, [2000, 10, 10], false, 0, true, [], [], 0, false⟩
noncomputable def Sah (P : Params) : Heap := ⟨⟨[boot_o_0 P, boot_o_1 P, boot_o_2 P, boot_o_3 P, boot_o_4 P, boot_o_5 P, boot_o_6 P, boot_o_7 P, boot_o_8 P, boot_o_9 P, boot_o_10 P, dK P, (zO), dM P, dN P]⟩, lf0⟩
noncomputable def Sa (w : World) (os : OsState) : Shared := ⟨Sah w.params, ⟨[]⟩, ⟨0, 0, 0, 0⟩, 187, os⟩
noncomputable def Sb (w : World) (os : OsState) : SharedT := (fun P => ⟨(nN (boot_o_0 P) (nN (boot_o_1 P) (nN (boot_o_3 P) (lN (boot_o_7 P)) (lN (dK P))) (nN (boot_o_5 P) (lN (boot_o_9 P)) (lN (dM P)))) (nN (boot_o_2 P) (nN (boot_o_4 P) (lN (boot_o_8 P)) (lN (zO))) (nN (boot_o_6 P) (lN (boot_o_10 P)) (lN (dN P))))), 15, lf0, ⟨[]⟩, ⟨0, 0, 0, 0⟩, 187, os⟩ : Params → SharedT) w.params
noncomputable def DG (w : World) : Prop := (fun os => topGo treeTable pw w m0 ann 12 (S0 w os) (topStub pw)) = fun os => some (Sa w os, ⟨denote treeTable cE, cE, ⟨0, 0, 0, 0⟩, B⟩)
theorem pre (w : World) : DG w := by
  unfold DG
  rw [PySem.W.Fast.te15667345088766844465, PySem.W.Fast.te14364793385576792824, PySem.W.Fast.te11892475500146522536]
  kernel_rfl
noncomputable def DB (w : World) : Prop := (fun os => segRun treeTable pw w m0 ann 1 1 (Sa w os) (blockOf (behindTheImports pw) env cE ⟨0, 0, 0, 0⟩ B)) = fun os => some (Flow.next, (Sb w os).abs, cE, ⟨0, 0, 0, 0⟩)
theorem blk (w : World) : DB w := by
  unfold DB
  rw [PySem.W.Fast.te14374325043358763698, PySem.W.Fast.te14364793385576792824]
  kernel_rfl
noncomputable def ec (P : Params) : Obj := tT []
noncomputable def eN (P : Params) : Obj := zO
noncomputable def em (P : Params) : Obj := tT [(sV "k" 190)]
noncomputable def dU (P : Params) : Obj := tT []
noncomputable def eU (P : Params) : Obj := fO "_wall" "_wall" pw.main.body 0
noncomputable def ei (P : Params) : Obj := cO "_wall" 187 "_wall" 188 189 1 1 3 15 true 181 16 .none (.ref 17) (.ref 18) (.ref 19) 191 1 192
noncomputable def eg (P : Params) : Obj := gO "_wall" "_wall" pw.main.body 0 (sV "__main__" 164) 20
noncomputable def dY (P : Params) : Obj := tT [(.type "ValueError")]
noncomputable def eK (P : Params) : Obj := ⟨(.type "builtin_function_or_method"), none, (.fields ⟨[(.builtin "type.__prepare__"), (.type "type")]⟩), ⟨[]⟩⟩
noncomputable def eM (P : Params) : Obj := ⟨(.type "dict"), none, (.dict ⟨[en P "__module__" 203 (sV "ringpost.errors" 194), en P "__qualname__" 205 (sV "PostError" 204), en P "__firstlineno__" 207 (.int (5) 206), en P "__static_attributes__" 208 (.ref 29)]⟩ 4), ⟨[]⟩⟩
noncomputable def eV (P : Params) : Obj := tT []
noncomputable def eQ (P : Params) : Obj := zO
noncomputable def eT (P : Params) : Obj := cO "PostError" 198 "PostError" 199 200 5 0 0 25 false 181 26 .none .none .none .none 201 5 202
noncomputable def eJ (P : Params) : Obj := ⟨(.type "frame"), none, .plain, ⟨[(some (.ref 27)), (some (.ref 3)), (some (.ref 24)), none, (some (sV "ringpost.errors" 194)), none, (some (.ref 0))]⟩⟩
noncomputable def dX (P : Params) : Obj := tT []
noncomputable def eh (P : Params) : Obj := ⟨(.type "dict"), none, (.dict ⟨[en P "__module__" 203 (sV "ringpost.errors" 194), en P "__firstlineno__" 207 (.int (5) 206), en P "__static_attributes__" 208 (.ref 29), en P "__weakref__" 210 (.ref 32), en P "__doc__" 211 .none]⟩ 3), ⟨[]⟩⟩
noncomputable def eW (P : Params) : Obj := ⟨(.type "getset_descriptor"), none, (.fields ⟨[(sV "__weakref__" 209), (.ref 31), (.builtin "ExceptionGroup.__weakref__"), .none]⟩), ⟨[]⟩⟩
noncomputable def fC (P : Params) : Obj := ⟨(.type "super"), none, (.fields ⟨[(.ref 31), (.ref 31), (.ref 31)]⟩), ⟨[]⟩⟩
noncomputable def fI (P : Params) : Obj := ⟨(.type "builtin_function_or_method"), none, (.fields ⟨[(.builtin "object.__init_subclass__"), (.ref 31)]⟩), ⟨[]⟩⟩
noncomputable def S1 (w : World) (os : OsState) : SharedT := (fun P => ⟨(nN (boot_o_0 P) (nN (boot_o_1 P) (nN (⟨(.type "dict"), none, (.dict ⟨[en P "__name__" 165 (sV "ringpost.errors" 194), en P "__doc__" 166 .none, en P "__package__" 167 .none, en P "__loader__" 168 (.builtin "__main__.__loader__#opaque"), en P "__spec__" 169 .none, en P "__annotations__" 170 (.ref 6), en P "__builtins__" 171 (.ref 4), en P "__file__" 173 (sV "/claim/cut.py" 172), en P "__cached__" 174 .none, en P "_wall" 193 (.ref 21), en P "PostError" 213 (.ref 31)]⟩ 11), ⟨[]⟩⟩) (nN (boot_o_7 P) (nN (ec P) (lN (⟨(.type "type"), none, (.cls { name := (sS "PostError"), bases := [(.type "ValueError")], mro := [(.ref 31), (.type "ValueError"), (.type "Exception"), (.type "BaseException"), (.type "object")], ns := 30, qualname := (sS "PostError"), hasDict := true, slotNames := [], subclasses := [], abstract := false, collection := none, hasDel := false }), ⟨[(some (.ref 22)), none, (some (sV "PostError" 196)), (some (sV "PostError" 204)), (some (.builtin "ValueError.__new__")), (some (.bool true))]⟩⟩)) .nil) (lN (eK P))) (nN (dK P) (lN (eU P)) (lN (eT P)))) (nN (boot_o_5 P) (nN (boot_o_9 P) (nN (em P) (lN (fC P)) .nil) (lN (eV P))) (nN (dM P) (lN (eg P)) (lN (dX P))))) (nN (boot_o_2 P) (nN (boot_o_4 P) (nN (boot_o_8 P) (nN (eN P) (lN (eW P)) .nil) (lN (eM P))) (nN (⟨.none, none, (.fields ⟨[(.int (1) 0), (.int (0) 0), (.ref 20), (.int (5) 0), (.int (0) 0), (.ref 27)]⟩), ⟨[]⟩⟩) (lN (ei P)) (lN (eJ P)))) (nN (boot_o_6 P) (nN (boot_o_10 P) (nN (dU P) (lN (fI P)) .nil) (lN (eQ P))) (nN (dN P) (lN (dY P)) (lN (eh P)))))), 35, lf0, ⟨[]⟩, ⟨0, 0, 0, 0⟩, 214, os⟩ : Params → SharedT) w.params
noncomputable def De : List Stmt := ((behindTheImports pw).drop 0).take 3
noncomputable def CY (w : World) : Prop := (fun os => segRunT treeTable pw w m0 ann 1 225 (Sb w os) (piecesOf De env cE ⟨0, 0, 0, 0⟩ B)) = fun os => some (Flow.next, S1 w os, cE, ⟨5, 0, 6, 8⟩)
theorem pc0 (w : World) : CY w := by
  unfold CY
  rw [PySem.W.Fast.te10110043849684766642, PySem.W.Fast.te14364793385576792824]
  kernel_rfl
noncomputable def fA (P : Params) : Obj := tT [(.ref 31)]
noncomputable def fT (P : Params) : Obj := ⟨(.type "builtin_function_or_method"), none, (.fields ⟨[(.builtin "type.__prepare__"), (.type "type")]⟩), ⟨[]⟩⟩
noncomputable def fw (P : Params) : Obj := ⟨(.type "dict"), none, (.dict ⟨[en P "__module__" 221 (sV "ringpost.errors" 194), en P "__qualname__" 223 (sV "BadBounds" 222), en P "__firstlineno__" 225 (.int (7) 224), en P "__static_attributes__" 226 (.ref 42)]⟩ 4), ⟨[]⟩⟩
noncomputable def fG (P : Params) : Obj := tT []
noncomputable def fq (P : Params) : Obj := zO
noncomputable def fj (P : Params) : Obj := cO "BadBounds" 216 "BadBounds" 217 218 7 0 0 38 false 181 39 .none .none .none .none 219 7 220
noncomputable def fy (P : Params) : Obj := ⟨(.type "frame"), none, .plain, ⟨[(some (.ref 40)), (some (.ref 3)), (some (.ref 37)), none, (some (sV "ringpost.errors" 194)), none, (some (.ref 0))]⟩⟩
noncomputable def eR (P : Params) : Obj := tT []
noncomputable def eP (P : Params) : Obj := ⟨(.type "dict"), none, (.dict ⟨[en P "__module__" 221 (sV "ringpost.errors" 194), en P "__firstlineno__" 225 (.int (7) 224), en P "__static_attributes__" 226 (.ref 42), en P "__doc__" 227 .none]⟩ 2), ⟨[]⟩⟩
noncomputable def eO (P : Params) : Obj := ⟨(.type "type"), none, (.cls { name := (sS "BadBounds"), bases := [(.ref 31)], mro := [(.ref 44), (.ref 31), (.type "ValueError"), (.type "Exception"), (.type "BaseException"), (.type "object")], ns := 43, qualname := (sS "BadBounds"), hasDict := true, slotNames := [], subclasses := [], abstract := false, collection := none, hasDel := false }), ⟨[(some (.ref 35)), none, (some (sV "BadBounds" 214)), (some (sV "BadBounds" 222)), (some (.builtin "ValueError.__new__")), (some (.bool true))]⟩⟩
noncomputable def fE (P : Params) : Obj := ⟨(.type "super"), none, (.fields ⟨[(.ref 44), (.ref 44), (.ref 44)]⟩), ⟨[]⟩⟩
noncomputable def fL (P : Params) : Obj := ⟨(.type "builtin_function_or_method"), none, (.fields ⟨[(.builtin "object.__init_subclass__"), (.ref 44)]⟩), ⟨[]⟩⟩
noncomputable def S2 (w : World) (os : OsState) : SharedT := (fun P => ⟨(nN (boot_o_0 P) (nN (boot_o_1 P) (nN (⟨(.type "dict"), none, (.dict ⟨[en P "__name__" 165 (sV "ringpost.errors" 194), en P "__doc__" 166 .none, en P "__package__" 167 .none, en P "__loader__" 168 (.builtin "__main__.__loader__#opaque"), en P "__spec__" 169 .none, en P "__annotations__" 170 (.ref 6), en P "__builtins__" 171 (.ref 4), en P "__file__" 173 (sV "/claim/cut.py" 172), en P "__cached__" 174 .none, en P "_wall" 193 (.ref 21), en P "PostError" 213 (.ref 31), en P "BadBounds" 229 (.ref 44)]⟩ 12), ⟨[]⟩⟩) (nN (boot_o_7 P) (nN (ec P) (lN (⟨(.type "type"), none, (.cls { name := (sS "PostError"), bases := [(.type "ValueError")], mro := [(.ref 31), (.type "ValueError"), (.type "Exception"), (.type "BaseException"), (.type "object")], ns := 30, qualname := (sS "PostError"), hasDict := true, slotNames := [], subclasses := [(.ref 44)], abstract := false, collection := none, hasDel := false }), ⟨[(some (.ref 22)), none, (some (sV "PostError" 196)), (some (sV "PostError" 204)), (some (.builtin "ValueError.__new__")), (some (.bool true))]⟩⟩)) .nil) (nN (eK P) (lN (fq P)) .nil)) (nN (dK P) (nN (eU P) (lN (fA P)) .nil) (nN (eT P) (lN (eP P)) .nil))) (nN (boot_o_5 P) (nN (boot_o_9 P) (nN (em P) (lN (fC P)) .nil) (nN (eV P) (lN (fy P)) .nil)) (nN (dM P) (nN (eg P) (lN (fw P)) .nil) (nN (dX P) (lN (fE P)) .nil)))) (nN (boot_o_2 P) (nN (boot_o_4 P) (nN (boot_o_8 P) (nN (eN P) (lN (eW P)) .nil) (nN (eM P) (lN (fj P)) .nil)) (nN (⟨.none, none, (.fields ⟨[(.int (1) 0), (.int (0) 0), (.ref 20), (.int (5) 0), (.int (0) 0), (.ref 27), (.int (7) 0), (.int (0) 0), (.ref 40)]⟩), ⟨[]⟩⟩) (nN (ei P) (lN (fT P)) .nil) (nN (eJ P) (lN (eO P)) .nil))) (nN (boot_o_6 P) (nN (boot_o_10 P) (nN (dU P) (lN (fI P)) .nil) (nN (eQ P) (lN (eR P)) .nil)) (nN (dN P) (nN (dY P) (lN (fG P)) .nil) (nN (eh P) (lN (fL P)) .nil))))), 47, lf0, ⟨[]⟩, ⟨0, 0, 0, 0⟩, 230, os⟩ : Params → SharedT) w.params
noncomputable def CV : List Stmt := ((behindTheImports pw).drop 3).take 1
noncomputable def DY (w : World) : Prop := (fun os => segRunT treeTable pw w m0 ann 1 214 (S1 w os) (piecesOf CV env cE ⟨5, 0, 6, 8⟩ B)) = fun os => some (Flow.next, S2 w os, cE, ⟨7, 0, 8, 8⟩)
theorem pc1 (w : World) : DY w := by
  unfold DY
  rw [PySem.W.Fast.te10110043849684766642, PySem.W.Fast.te14364793385576792824]
  kernel_rfl
noncomputable def fD (P : Params) : Obj := tT [(.ref 31)]
noncomputable def fV (P : Params) : Obj := ⟨(.type "builtin_function_or_method"), none, (.fields ⟨[(.builtin "type.__prepare__"), (.type "type")]⟩), ⟨[]⟩⟩
noncomputable def fW (P : Params) : Obj := ⟨(.type "dict"), none, (.dict ⟨[en P "__module__" 237 (sV "ringpost.errors" 194), en P "__qualname__" 239 (sV "BadRing" 238), en P "__firstlineno__" 241 (.int (9) 240), en P "__static_attributes__" 242 (.ref 54)]⟩ 4), ⟨[]⟩⟩
noncomputable def fU (P : Params) : Obj := tT []
noncomputable def gL (P : Params) : Obj := zO
noncomputable def gJ (P : Params) : Obj := cO "BadRing" 232 "BadRing" 233 234 9 0 0 50 false 181 51 .none .none .none .none 235 9 236
noncomputable def gN (P : Params) : Obj := ⟨(.type "frame"), none, .plain, ⟨[(some (.ref 52)), (some (.ref 3)), (some (.ref 49)), none, (some (sV "ringpost.errors" 194)), none, (some (.ref 0))]⟩⟩
noncomputable def fX (P : Params) : Obj := tT []
noncomputable def fS (P : Params) : Obj := ⟨(.type "dict"), none, (.dict ⟨[en P "__module__" 237 (sV "ringpost.errors" 194), en P "__firstlineno__" 241 (.int (9) 240), en P "__static_attributes__" 242 (.ref 54), en P "__doc__" 243 .none]⟩ 2), ⟨[]⟩⟩
noncomputable def fR (P : Params) : Obj := ⟨(.type "type"), none, (.cls { name := (sS "BadRing"), bases := [(.ref 31)], mro := [(.ref 56), (.ref 31), (.type "ValueError"), (.type "Exception"), (.type "BaseException"), (.type "object")], ns := 55, qualname := (sS "BadRing"), hasDict := true, slotNames := [], subclasses := [], abstract := false, collection := none, hasDel := false }), ⟨[(some (.ref 47)), none, (some (sV "BadRing" 230)), (some (sV "BadRing" 238)), (some (.builtin "ValueError.__new__")), (some (.bool true))]⟩⟩
noncomputable def gB (P : Params) : Obj := ⟨(.type "super"), none, (.fields ⟨[(.ref 56), (.ref 56), (.ref 56)]⟩), ⟨[]⟩⟩
noncomputable def gH (P : Params) : Obj := ⟨(.type "builtin_function_or_method"), none, (.fields ⟨[(.builtin "object.__init_subclass__"), (.ref 56)]⟩), ⟨[]⟩⟩
noncomputable def S3 (w : World) (os : OsState) : SharedT := (fun P => ⟨(nN (boot_o_0 P) (nN (boot_o_1 P) (nN (⟨(.type "dict"), none, (.dict ⟨[en P "__name__" 165 (sV "ringpost.errors" 194), en P "__doc__" 166 .none, en P "__package__" 167 .none, en P "__loader__" 168 (.builtin "__main__.__loader__#opaque"), en P "__spec__" 169 .none, en P "__annotations__" 170 (.ref 6), en P "__builtins__" 171 (.ref 4), en P "__file__" 173 (sV "/claim/cut.py" 172), en P "__cached__" 174 .none, en P "_wall" 193 (.ref 21), en P "PostError" 213 (.ref 31), en P "BadBounds" 229 (.ref 44), en P "BadRing" 245 (.ref 56)]⟩ 13), ⟨[]⟩⟩) (nN (boot_o_7 P) (nN (ec P) (lN (⟨(.type "type"), none, (.cls { name := (sS "PostError"), bases := [(.type "ValueError")], mro := [(.ref 31), (.type "ValueError"), (.type "Exception"), (.type "BaseException"), (.type "object")], ns := 30, qualname := (sS "PostError"), hasDict := true, slotNames := [], subclasses := [(.ref 44), (.ref 56)], abstract := false, collection := none, hasDel := false }), ⟨[(some (.ref 22)), none, (some (sV "PostError" 196)), (some (sV "PostError" 204)), (some (.builtin "ValueError.__new__")), (some (.bool true))]⟩⟩)) (lN (fD P))) (nN (eK P) (lN (fq P)) (lN (fS P)))) (nN (dK P) (nN (eU P) (lN (fA P)) (lN (gL P))) (nN (eT P) (lN (eP P)) .nil))) (nN (boot_o_5 P) (nN (boot_o_9 P) (nN (em P) (lN (fC P)) (lN (fW P))) (nN (eV P) (lN (fy P)) (lN (gB P)))) (nN (dM P) (nN (eg P) (lN (fw P)) (lN (gN P))) (nN (dX P) (lN (fE P)) .nil)))) (nN (boot_o_2 P) (nN (boot_o_4 P) (nN (boot_o_8 P) (nN (eN P) (lN (eW P)) (lN (fV P))) (nN (eM P) (lN (fj P)) (lN (fR P)))) (nN (⟨.none, none, (.fields ⟨[(.int (1) 0), (.int (0) 0), (.ref 20), (.int (5) 0), (.int (0) 0), (.ref 27), (.int (7) 0), (.int (0) 0), (.ref 40), (.int (9) 0), (.int (0) 0), (.ref 52)]⟩), ⟨[]⟩⟩) (nN (ei P) (lN (fT P)) (lN (gJ P))) (nN (eJ P) (lN (eO P)) .nil))) (nN (boot_o_6 P) (nN (boot_o_10 P) (nN (dU P) (lN (fI P)) (lN (fU P))) (nN (eQ P) (lN (eR P)) (lN (gH P)))) (nN (dN P) (nN (dY P) (lN (fG P)) (lN (fX P))) (nN (eh P) (lN (fL P)) .nil))))), 59, lf0, ⟨[]⟩, ⟨0, 0, 0, 0⟩, 246, os⟩ : Params → SharedT) w.params
noncomputable def Dd : List Stmt := ((behindTheImports pw).drop 4).take 1
noncomputable def DX (w : World) : Prop := (fun os => segRunT treeTable pw w m0 ann 1 214 (S2 w os) (piecesOf Dd env cE ⟨7, 0, 8, 8⟩ B)) = fun os => some (Flow.next, S3 w os, cE, ⟨9, 0, 10, 8⟩)
theorem pc2 (w : World) : DX w := by
  unfold DX
  rw [PySem.W.Fast.te10110043849684766642, PySem.W.Fast.te14364793385576792824]
  kernel_rfl
noncomputable def gP (P : Params) : Obj := tT [(.ref 31)]
noncomputable def iI (P : Params) : Obj := ⟨(.type "builtin_function_or_method"), none, (.fields ⟨[(.builtin "type.__prepare__"), (.type "type")]⟩), ⟨[]⟩⟩
noncomputable def iS (P : Params) : Obj := ⟨(.type "dict"), none, (.dict ⟨[en P "__module__" 253 (sV "ringpost.errors" 194), en P "__qualname__" 255 (sV "BadTexts" 254), en P "__firstlineno__" 257 (.int (11) 256), en P "__static_attributes__" 258 (.ref 66)]⟩ 4), ⟨[]⟩⟩
noncomputable def iJ (P : Params) : Obj := cO "BadTexts" 248 "BadTexts" 249 250 11 0 0 62 false 181 63 .none .none .none .none 251 11 252
noncomputable def iL (P : Params) : Obj := ⟨(.type "frame"), none, .plain, ⟨[(some (.ref 64)), (some (.ref 3)), (some (.ref 61)), none, (some (sV "ringpost.errors" 194)), none, (some (.ref 0))]⟩⟩
noncomputable def gz (P : Params) : Obj := tT []
noncomputable def gR (P : Params) : Obj := ⟨(.type "dict"), none, (.dict ⟨[en P "__module__" 253 (sV "ringpost.errors" 194), en P "__firstlineno__" 257 (.int (11) 256), en P "__static_attributes__" 258 (.ref 66), en P "__doc__" 259 .none]⟩ 2), ⟨[]⟩⟩
noncomputable def gG (P : Params) : Obj := ⟨(.type "type"), none, (.cls { name := (sS "BadTexts"), bases := [(.ref 31)], mro := [(.ref 68), (.ref 31), (.type "ValueError"), (.type "Exception"), (.type "BaseException"), (.type "object")], ns := 67, qualname := (sS "BadTexts"), hasDict := true, slotNames := [], subclasses := [], abstract := false, collection := none, hasDel := false }), ⟨[(some (.ref 59)), none, (some (sV "BadTexts" 246)), (some (sV "BadTexts" 254)), (some (.builtin "ValueError.__new__")), (some (.bool true))]⟩⟩
noncomputable def gS (P : Params) : Obj := ⟨(.type "super"), none, (.fields ⟨[(.ref 68), (.ref 68), (.ref 68)]⟩), ⟨[]⟩⟩
noncomputable def gM (P : Params) : Obj := ⟨(.type "builtin_function_or_method"), none, (.fields ⟨[(.builtin "object.__init_subclass__"), (.ref 68)]⟩), ⟨[]⟩⟩
noncomputable def S4 (w : World) (os : OsState) : SharedT := (fun P => ⟨(nN (boot_o_0 P) (nN (boot_o_1 P) (nN (⟨(.type "dict"), none, (.dict ⟨[en P "__name__" 165 (sV "ringpost.errors" 194), en P "__doc__" 166 .none, en P "__package__" 167 .none, en P "__loader__" 168 (.builtin "__main__.__loader__#opaque"), en P "__spec__" 169 .none, en P "__annotations__" 170 (.ref 6), en P "__builtins__" 171 (.ref 4), en P "__file__" 173 (sV "/claim/cut.py" 172), en P "__cached__" 174 .none, en P "_wall" 193 (.ref 21), en P "PostError" 213 (.ref 31), en P "BadBounds" 229 (.ref 44), en P "BadRing" 245 (.ref 56), en P "BadTexts" 261 (.ref 68)]⟩ 14), ⟨[]⟩⟩) (nN (boot_o_7 P) (nN (ec P) (nN (⟨(.type "type"), none, (.cls { name := (sS "PostError"), bases := [(.type "ValueError")], mro := [(.ref 31), (.type "ValueError"), (.type "Exception"), (.type "BaseException"), (.type "object")], ns := 30, qualname := (sS "PostError"), hasDict := true, slotNames := [], subclasses := [(.ref 44), (.ref 56), (.ref 68)], abstract := false, collection := none, hasDel := false }), ⟨[(some (.ref 22)), none, (some (sV "PostError" 196)), (some (sV "PostError" 204)), (some (.builtin "ValueError.__new__")), (some (.bool true))]⟩⟩) (lN (zO)) .nil) (lN (fD P))) (nN (eK P) (lN (fq P)) (lN (fS P)))) (nN (dK P) (nN (eU P) (nN (fA P) (lN (gR P)) .nil) (lN (gL P))) (nN (eT P) (lN (eP P)) (lN (gP P))))) (nN (boot_o_5 P) (nN (boot_o_9 P) (nN (em P) (nN (fC P) (lN (iL P)) .nil) (lN (fW P))) (nN (eV P) (lN (fy P)) (lN (gB P)))) (nN (dM P) (nN (eg P) (nN (fw P) (lN (gS P)) .nil) (lN (gN P))) (nN (dX P) (lN (fE P)) (lN (iS P)))))) (nN (boot_o_2 P) (nN (boot_o_4 P) (nN (boot_o_8 P) (nN (eN P) (nN (eW P) (lN (iJ P)) .nil) (lN (fV P))) (nN (eM P) (lN (fj P)) (lN (fR P)))) (nN (⟨.none, none, (.fields ⟨[(.int (1) 0), (.int (0) 0), (.ref 20), (.int (5) 0), (.int (0) 0), (.ref 27), (.int (7) 0), (.int (0) 0), (.ref 40), (.int (9) 0), (.int (0) 0), (.ref 52), (.int (11) 0), (.int (0) 0), (.ref 64)]⟩), ⟨[]⟩⟩) (nN (ei P) (nN (fT P) (lN (gG P)) .nil) (lN (gJ P))) (nN (eJ P) (lN (eO P)) (lN (iI P))))) (nN (boot_o_6 P) (nN (boot_o_10 P) (nN (dU P) (nN (fI P) (lN (gz P)) .nil) (lN (fU P))) (nN (eQ P) (lN (eR P)) (lN (gH P)))) (nN (dN P) (nN (dY P) (nN (fG P) (lN (gM P)) .nil) (lN (fX P))) (nN (eh P) (lN (fL P)) (lN (tT []))))))), 71, lf0, ⟨[]⟩, ⟨0, 0, 0, 0⟩, 262, os⟩ : Params → SharedT) w.params
noncomputable def Ej : List Stmt := ((behindTheImports pw).drop 5).take 1
noncomputable def Eb (w : World) : Prop := (fun os => segRunT treeTable pw w m0 ann 1 214 (S3 w os) (piecesOf Ej env cE ⟨9, 0, 10, 8⟩ B)) = fun os => some (Flow.next, S4 w os, cE, ⟨11, 0, 12, 8⟩)
theorem pc3 (w : World) : Eb w := by
  unfold Eb
  rw [PySem.W.Fast.te10110043849684766642, PySem.W.Fast.te14364793385576792824]
  kernel_rfl
noncomputable def gQ (P : Params) : Obj := tT [(.ref 31)]
noncomputable def iK (P : Params) : Obj := ⟨(.type "builtin_function_or_method"), none, (.fields ⟨[(.builtin "type.__prepare__"), (.type "type")]⟩), ⟨[]⟩⟩
noncomputable def iP (P : Params) : Obj := ⟨(.type "dict"), none, (.dict ⟨[en P "__module__" 269 (sV "ringpost.errors" 194), en P "__qualname__" 271 (sV "BadStep" 270), en P "__firstlineno__" 273 (.int (13) 272), en P "__static_attributes__" 274 (.ref 78)]⟩ 4), ⟨[]⟩⟩
noncomputable def iQ (P : Params) : Obj := cO "BadStep" 264 "BadStep" 265 266 13 0 0 74 false 181 75 .none .none .none .none 267 13 268
noncomputable def iH (P : Params) : Obj := ⟨(.type "frame"), none, .plain, ⟨[(some (.ref 76)), (some (.ref 3)), (some (.ref 73)), none, (some (sV "ringpost.errors" 194)), none, (some (.ref 0))]⟩⟩
noncomputable def gI (P : Params) : Obj := tT []
noncomputable def gC (P : Params) : Obj := ⟨(.type "dict"), none, (.dict ⟨[en P "__module__" 269 (sV "ringpost.errors" 194), en P "__firstlineno__" 273 (.int (13) 272), en P "__static_attributes__" 274 (.ref 78), en P "__doc__" 275 .none]⟩ 2), ⟨[]⟩⟩
noncomputable def gE (P : Params) : Obj := ⟨(.type "type"), none, (.cls { name := (sS "BadStep"), bases := [(.ref 31)], mro := [(.ref 80), (.ref 31), (.type "ValueError"), (.type "Exception"), (.type "BaseException"), (.type "object")], ns := 79, qualname := (sS "BadStep"), hasDict := true, slotNames := [], subclasses := [], abstract := false, collection := none, hasDel := false }), ⟨[(some (.ref 71)), none, (some (sV "BadStep" 262)), (some (sV "BadStep" 270)), (some (.builtin "ValueError.__new__")), (some (.bool true))]⟩⟩
noncomputable def iG (P : Params) : Obj := ⟨(.type "super"), none, (.fields ⟨[(.ref 80), (.ref 80), (.ref 80)]⟩), ⟨[]⟩⟩
noncomputable def iF (P : Params) : Obj := ⟨(.type "builtin_function_or_method"), none, (.fields ⟨[(.builtin "object.__init_subclass__"), (.ref 80)]⟩), ⟨[]⟩⟩
noncomputable def S5 (w : World) (os : OsState) : SharedT := (fun P => ⟨(nN (boot_o_0 P) (nN (boot_o_1 P) (nN (⟨(.type "dict"), none, (.dict ⟨[en P "__name__" 165 (sV "ringpost.errors" 194), en P "__doc__" 166 .none, en P "__package__" 167 .none, en P "__loader__" 168 (.builtin "__main__.__loader__#opaque"), en P "__spec__" 169 .none, en P "__annotations__" 170 (.ref 6), en P "__builtins__" 171 (.ref 4), en P "__file__" 173 (sV "/claim/cut.py" 172), en P "__cached__" 174 .none, en P "_wall" 193 (.ref 21), en P "PostError" 213 (.ref 31), en P "BadBounds" 229 (.ref 44), en P "BadRing" 245 (.ref 56), en P "BadTexts" 261 (.ref 68), en P "BadStep" 277 (.ref 80)]⟩ 15), ⟨[]⟩⟩) (nN (boot_o_7 P) (nN (ec P) (nN (⟨(.type "type"), none, (.cls { name := (sS "PostError"), bases := [(.type "ValueError")], mro := [(.ref 31), (.type "ValueError"), (.type "Exception"), (.type "BaseException"), (.type "object")], ns := 30, qualname := (sS "PostError"), hasDict := true, slotNames := [], subclasses := [(.ref 44), (.ref 56), (.ref 68), (.ref 80)], abstract := false, collection := none, hasDel := false }), ⟨[(some (.ref 22)), none, (some (sV "PostError" 196)), (some (sV "PostError" 204)), (some (.builtin "ValueError.__new__")), (some (.bool true))]⟩⟩) (lN (zO)) .nil) (nN (fD P) (lN (gC P)) .nil)) (nN (eK P) (nN (fq P) (lN (gQ P)) .nil) (lN (fS P)))) (nN (dK P) (nN (eU P) (nN (fA P) (lN (gR P)) .nil) (lN (gL P))) (nN (eT P) (nN (eP P) (lN (zO)) .nil) (lN (gP P))))) (nN (boot_o_5 P) (nN (boot_o_9 P) (nN (em P) (nN (fC P) (lN (iL P)) .nil) (nN (fW P) (lN (iG P)) .nil)) (nN (eV P) (nN (fy P) (lN (iP P)) .nil) (lN (gB P)))) (nN (dM P) (nN (eg P) (nN (fw P) (lN (gS P)) .nil) (lN (gN P))) (nN (dX P) (nN (fE P) (lN (iH P)) .nil) (lN (iS P)))))) (nN (boot_o_2 P) (nN (boot_o_4 P) (nN (boot_o_8 P) (nN (eN P) (nN (eW P) (lN (iJ P)) .nil) (nN (fV P) (lN (gE P)) .nil)) (nN (eM P) (nN (fj P) (lN (iK P)) .nil) (lN (fR P)))) (nN (⟨.none, none, (.fields ⟨[(.int (1) 0), (.int (0) 0), (.ref 20), (.int (5) 0), (.int (0) 0), (.ref 27), (.int (7) 0), (.int (0) 0), (.ref 40), (.int (9) 0), (.int (0) 0), (.ref 52), (.int (11) 0), (.int (0) 0), (.ref 64), (.int (13) 0), (.int (0) 0), (.ref 76)]⟩), ⟨[]⟩⟩) (nN (ei P) (nN (fT P) (lN (gG P)) .nil) (lN (gJ P))) (nN (eJ P) (nN (eO P) (lN (iQ P)) .nil) (lN (iI P))))) (nN (boot_o_6 P) (nN (boot_o_10 P) (nN (dU P) (nN (fI P) (lN (gz P)) .nil) (nN (fU P) (lN (iF P)) .nil)) (nN (eQ P) (nN (eR P) (lN (tT [])) .nil) (lN (gH P)))) (nN (dN P) (nN (dY P) (nN (fG P) (lN (gM P)) .nil) (lN (fX P))) (nN (eh P) (nN (fL P) (lN (gI P)) .nil) (lN (tT []))))))), 83, lf0, ⟨[]⟩, ⟨0, 0, 0, 0⟩, 278, os⟩ : Params → SharedT) w.params
noncomputable def Du : List Stmt := ((behindTheImports pw).drop 6).take 1
noncomputable def Di (w : World) : Prop := (fun os => segRunT treeTable pw w m0 ann 1 214 (S4 w os) (piecesOf Du env cE ⟨11, 0, 12, 8⟩ B)) = fun os => some (Flow.next, S5 w os, cE, ⟨13, 0, 14, 8⟩)
theorem pc4 (w : World) : Di w := by
  unfold Di
  rw [PySem.W.Fast.te10110043849684766642, PySem.W.Fast.te14364793385576792824]
  kernel_rfl
noncomputable def jD (P : Params) : Obj := tT [(.ref 31)]
noncomputable def kc (P : Params) : Obj := ⟨(.type "builtin_function_or_method"), none, (.fields ⟨[(.builtin "type.__prepare__"), (.type "type")]⟩), ⟨[]⟩⟩
noncomputable def jV (P : Params) : Obj := ⟨(.type "dict"), none, (.dict ⟨[en P "__module__" 285 (sV "ringpost.errors" 194), en P "__qualname__" 287 (sV "NotNow" 286), en P "__firstlineno__" 289 (.int (15) 288), en P "__static_attributes__" 290 (.ref 90)]⟩ 4), ⟨[]⟩⟩
noncomputable def jU (P : Params) : Obj := cO "NotNow" 280 "NotNow" 281 282 15 0 0 86 false 181 87 .none .none .none .none 283 15 284
noncomputable def jW (P : Params) : Obj := ⟨(.type "frame"), none, .plain, ⟨[(some (.ref 88)), (some (.ref 3)), (some (.ref 85)), none, (some (sV "ringpost.errors" 194)), none, (some (.ref 0))]⟩⟩
noncomputable def iY (P : Params) : Obj := ⟨(.type "dict"), none, (.dict ⟨[en P "__module__" 285 (sV "ringpost.errors" 194), en P "__firstlineno__" 289 (.int (15) 288), en P "__static_attributes__" 290 (.ref 90), en P "__doc__" 291 .none]⟩ 2), ⟨[]⟩⟩
noncomputable def jE (P : Params) : Obj := ⟨(.type "type"), none, (.cls { name := (sS "NotNow"), bases := [(.ref 31)], mro := [(.ref 92), (.ref 31), (.type "ValueError"), (.type "Exception"), (.type "BaseException"), (.type "object")], ns := 91, qualname := (sS "NotNow"), hasDict := true, slotNames := [], subclasses := [], abstract := false, collection := none, hasDel := false }), ⟨[(some (.ref 83)), none, (some (sV "NotNow" 278)), (some (sV "NotNow" 286)), (some (.builtin "ValueError.__new__")), (some (.bool true))]⟩⟩
noncomputable def jZ (P : Params) : Obj := ⟨(.type "super"), none, (.fields ⟨[(.ref 92), (.ref 92), (.ref 92)]⟩), ⟨[]⟩⟩
noncomputable def jY (P : Params) : Obj := ⟨(.type "builtin_function_or_method"), none, (.fields ⟨[(.builtin "object.__init_subclass__"), (.ref 92)]⟩), ⟨[]⟩⟩
noncomputable def S6 (w : World) (os : OsState) : SharedT := (fun P => ⟨(nN (boot_o_0 P) (nN (boot_o_1 P) (nN (⟨(.type "dict"), none, (.dict ⟨[en P "__name__" 165 (sV "ringpost.errors" 194), en P "__doc__" 166 .none, en P "__package__" 167 .none, en P "__loader__" 168 (.builtin "__main__.__loader__#opaque"), en P "__spec__" 169 .none, en P "__annotations__" 170 (.ref 6), en P "__builtins__" 171 (.ref 4), en P "__file__" 173 (sV "/claim/cut.py" 172), en P "__cached__" 174 .none, en P "_wall" 193 (.ref 21), en P "PostError" 213 (.ref 31), en P "BadBounds" 229 (.ref 44), en P "BadRing" 245 (.ref 56), en P "BadTexts" 261 (.ref 68), en P "BadStep" 277 (.ref 80), en P "NotNow" 293 (.ref 92)]⟩ 16), ⟨[]⟩⟩) (nN (boot_o_7 P) (nN (ec P) (nN (⟨(.type "type"), none, (.cls { name := (sS "PostError"), bases := [(.type "ValueError")], mro := [(.ref 31), (.type "ValueError"), (.type "Exception"), (.type "BaseException"), (.type "object")], ns := 30, qualname := (sS "PostError"), hasDict := true, slotNames := [], subclasses := [(.ref 44), (.ref 56), (.ref 68), (.ref 80), (.ref 92)], abstract := false, collection := none, hasDel := false }), ⟨[(some (.ref 22)), none, (some (sV "PostError" 196)), (some (sV "PostError" 204)), (some (.builtin "ValueError.__new__")), (some (.bool true))]⟩⟩) (lN (zO)) .nil) (nN (fD P) (lN (gC P)) .nil)) (nN (eK P) (nN (fq P) (lN (gQ P)) .nil) (nN (fS P) (lN (zO)) .nil))) (nN (dK P) (nN (eU P) (nN (fA P) (lN (gR P)) .nil) (nN (gL P) (lN (jD P)) .nil)) (nN (eT P) (nN (eP P) (lN (zO)) .nil) (nN (gP P) (lN (iY P)) .nil)))) (nN (boot_o_5 P) (nN (boot_o_9 P) (nN (em P) (nN (fC P) (lN (iL P)) .nil) (nN (fW P) (lN (iG P)) .nil)) (nN (eV P) (nN (fy P) (lN (iP P)) .nil) (nN (gB P) (lN (jW P)) .nil))) (nN (dM P) (nN (eg P) (nN (fw P) (lN (gS P)) .nil) (nN (gN P) (lN (jV P)) .nil)) (nN (dX P) (nN (fE P) (lN (iH P)) .nil) (nN (iS P) (lN (jZ P)) .nil))))) (nN (boot_o_2 P) (nN (boot_o_4 P) (nN (boot_o_8 P) (nN (eN P) (nN (eW P) (lN (iJ P)) .nil) (nN (fV P) (lN (gE P)) .nil)) (nN (eM P) (nN (fj P) (lN (iK P)) .nil) (nN (fR P) (lN (jU P)) .nil))) (nN (⟨.none, none, (.fields ⟨[(.int (1) 0), (.int (0) 0), (.ref 20), (.int (5) 0), (.int (0) 0), (.ref 27), (.int (7) 0), (.int (0) 0), (.ref 40), (.int (9) 0), (.int (0) 0), (.ref 52), (.int (11) 0), (.int (0) 0), (.ref 64), (.int (13) 0), (.int (0) 0), (.ref 76), (.int (15) 0), (.int (0) 0), (.ref 88)]⟩), ⟨[]⟩⟩) (nN (ei P) (nN (fT P) (lN (gG P)) .nil) (nN (gJ P) (lN (kc P)) .nil)) (nN (eJ P) (nN (eO P) (lN (iQ P)) .nil) (nN (iI P) (lN (jE P)) .nil)))) (nN (boot_o_6 P) (nN (boot_o_10 P) (nN (dU P) (nN (fI P) (lN (gz P)) .nil) (nN (fU P) (lN (iF P)) .nil)) (nN (eQ P) (nN (eR P) (lN (tT [])) .nil) (nN (gH P) (lN (tT [])) .nil))) (nN (dN P) (nN (dY P) (nN (fG P) (lN (gM P)) .nil) (nN (fX P) (lN (tT [])) .nil)) (nN (eh P) (nN (fL P) (lN (gI P)) .nil) (nN (tT []) (lN (jY P)) .nil)))))), 95, lf0, ⟨[]⟩, ⟨0, 0, 0, 0⟩, 294, os⟩ : Params → SharedT) w.params
noncomputable def EJ : List Stmt := ((behindTheImports pw).drop 7).take 1
noncomputable def EI (w : World) : Prop := (fun os => segRunT treeTable pw w m0 ann 1 214 (S5 w os) (piecesOf EJ env cE ⟨13, 0, 14, 8⟩ B)) = fun os => some (Flow.next, S6 w os, cE, ⟨15, 0, 16, 8⟩)
theorem pc5 (w : World) : EI w := by
  unfold EI
  rw [PySem.W.Fast.te10110043849684766642, PySem.W.Fast.te14364793385576792824]
  kernel_rfl
noncomputable def kb (P : Params) : Obj := tT [(.ref 31)]
noncomputable def lP (P : Params) : Obj := ⟨(.type "builtin_function_or_method"), none, (.fields ⟨[(.builtin "type.__prepare__"), (.type "type")]⟩), ⟨[]⟩⟩
noncomputable def lH (P : Params) : Obj := ⟨(.type "dict"), none, (.dict ⟨[en P "__module__" 301 (sV "ringpost.errors" 194), en P "__qualname__" 303 (sV "NoLetter" 302), en P "__firstlineno__" 305 (.int (17) 304), en P "__static_attributes__" 306 (.ref 102)]⟩ 4), ⟨[]⟩⟩
noncomputable def ig (P : Params) : Obj := cO "NoLetter" 296 "NoLetter" 297 298 17 0 0 98 false 181 99 .none .none .none .none 299 17 300
noncomputable def gw (P : Params) : Obj := ⟨(.type "frame"), none, .plain, ⟨[(some (.ref 100)), (some (.ref 3)), (some (.ref 97)), none, (some (sV "ringpost.errors" 194)), none, (some (.ref 0))]⟩⟩
noncomputable def fB (P : Params) : Obj := ⟨(.type "dict"), none, (.dict ⟨[en P "__module__" 301 (sV "ringpost.errors" 194), en P "__firstlineno__" 305 (.int (17) 304), en P "__static_attributes__" 306 (.ref 102), en P "__doc__" 307 .none]⟩ 2), ⟨[]⟩⟩
noncomputable def fz (P : Params) : Obj := ⟨(.type "type"), none, (.cls { name := (sS "NoLetter"), bases := [(.ref 31)], mro := [(.ref 104), (.ref 31), (.type "ValueError"), (.type "Exception"), (.type "BaseException"), (.type "object")], ns := 103, qualname := (sS "NoLetter"), hasDict := true, slotNames := [], subclasses := [], abstract := false, collection := none, hasDel := false }), ⟨[(some (.ref 95)), none, (some (sV "NoLetter" 294)), (some (sV "NoLetter" 302)), (some (.builtin "ValueError.__new__")), (some (.bool true))]⟩⟩
noncomputable def gi (P : Params) : Obj := ⟨(.type "super"), none, (.fields ⟨[(.ref 104), (.ref 104), (.ref 104)]⟩), ⟨[]⟩⟩
noncomputable def gm (P : Params) : Obj := ⟨(.type "builtin_function_or_method"), none, (.fields ⟨[(.builtin "object.__init_subclass__"), (.ref 104)]⟩), ⟨[]⟩⟩
noncomputable def S7 (w : World) (os : OsState) : SharedT := (fun P => ⟨(nN (boot_o_0 P) (nN (boot_o_1 P) (nN (⟨(.type "dict"), none, (.dict ⟨[en P "__name__" 165 (sV "ringpost.errors" 194), en P "__doc__" 166 .none, en P "__package__" 167 .none, en P "__loader__" 168 (.builtin "__main__.__loader__#opaque"), en P "__spec__" 169 .none, en P "__annotations__" 170 (.ref 6), en P "__builtins__" 171 (.ref 4), en P "__file__" 173 (sV "/claim/cut.py" 172), en P "__cached__" 174 .none, en P "_wall" 193 (.ref 21), en P "PostError" 213 (.ref 31), en P "BadBounds" 229 (.ref 44), en P "BadRing" 245 (.ref 56), en P "BadTexts" 261 (.ref 68), en P "BadStep" 277 (.ref 80), en P "NotNow" 293 (.ref 92), en P "NoLetter" 309 (.ref 104)]⟩ 17), ⟨[]⟩⟩) (nN (boot_o_7 P) (nN (ec P) (nN (⟨(.type "type"), none, (.cls { name := (sS "PostError"), bases := [(.type "ValueError")], mro := [(.ref 31), (.type "ValueError"), (.type "Exception"), (.type "BaseException"), (.type "object")], ns := 30, qualname := (sS "PostError"), hasDict := true, slotNames := [], subclasses := [(.ref 44), (.ref 56), (.ref 68), (.ref 80), (.ref 92), (.ref 104)], abstract := false, collection := none, hasDel := false }), ⟨[(some (.ref 22)), none, (some (sV "PostError" 196)), (some (sV "PostError" 204)), (some (.builtin "ValueError.__new__")), (some (.bool true))]⟩⟩) (lN (zO)) (lN (kb P))) (nN (fD P) (lN (gC P)) .nil)) (nN (eK P) (nN (fq P) (lN (gQ P)) (lN (fB P))) (nN (fS P) (lN (zO)) .nil))) (nN (dK P) (nN (eU P) (nN (fA P) (lN (gR P)) (lN (zO))) (nN (gL P) (lN (jD P)) .nil)) (nN (eT P) (nN (eP P) (lN (zO)) .nil) (nN (gP P) (lN (iY P)) .nil)))) (nN (boot_o_5 P) (nN (boot_o_9 P) (nN (em P) (nN (fC P) (lN (iL P)) (lN (lH P))) (nN (fW P) (lN (iG P)) .nil)) (nN (eV P) (nN (fy P) (lN (iP P)) (lN (gi P))) (nN (gB P) (lN (jW P)) .nil))) (nN (dM P) (nN (eg P) (nN (fw P) (lN (gS P)) (lN (gw P))) (nN (gN P) (lN (jV P)) .nil)) (nN (dX P) (nN (fE P) (lN (iH P)) .nil) (nN (iS P) (lN (jZ P)) .nil))))) (nN (boot_o_2 P) (nN (boot_o_4 P) (nN (boot_o_8 P) (nN (eN P) (nN (eW P) (lN (iJ P)) (lN (lP P))) (nN (fV P) (lN (gE P)) .nil)) (nN (eM P) (nN (fj P) (lN (iK P)) (lN (fz P))) (nN (fR P) (lN (jU P)) .nil))) (nN (⟨.none, none, (.fields ⟨[(.int (1) 0), (.int (0) 0), (.ref 20), (.int (5) 0), (.int (0) 0), (.ref 27), (.int (7) 0), (.int (0) 0), (.ref 40), (.int (9) 0), (.int (0) 0), (.ref 52), (.int (11) 0), (.int (0) 0), (.ref 64), (.int (13) 0), (.int (0) 0), (.ref 76), (.int (15) 0), (.int (0) 0), (.ref 88), (.int (17) 0), (.int (0) 0), (.ref 100)]⟩), ⟨[]⟩⟩) (nN (ei P) (nN (fT P) (lN (gG P)) (lN (ig P))) (nN (gJ P) (lN (kc P)) .nil)) (nN (eJ P) (nN (eO P) (lN (iQ P)) .nil) (nN (iI P) (lN (jE P)) .nil)))) (nN (boot_o_6 P) (nN (boot_o_10 P) (nN (dU P) (nN (fI P) (lN (gz P)) (lN (tT []))) (nN (fU P) (lN (iF P)) .nil)) (nN (eQ P) (nN (eR P) (lN (tT [])) (lN (gm P))) (nN (gH P) (lN (tT [])) .nil))) (nN (dN P) (nN (dY P) (nN (fG P) (lN (gM P)) (lN (tT []))) (nN (fX P) (lN (tT [])) .nil)) (nN (eh P) (nN (fL P) (lN (gI P)) .nil) (nN (tT []) (lN (jY P)) .nil)))))), 107, lf0, ⟨[]⟩, ⟨0, 0, 0, 0⟩, 310, os⟩ : Params → SharedT) w.params
noncomputable def EL : List Stmt := ((behindTheImports pw).drop 8).take 1
noncomputable def EO (w : World) : Prop := (fun os => segRunT treeTable pw w m0 ann 1 214 (S6 w os) (piecesOf EL env cE ⟨15, 0, 16, 8⟩ B)) = fun os => some (Flow.next, S7 w os, cE, ⟨17, 0, 18, 8⟩)
theorem pc6 (w : World) : EO w := by
  unfold EO
  rw [PySem.W.Fast.te10110043849684766642, PySem.W.Fast.te14364793385576792824]
  kernel_rfl
noncomputable def lx (P : Params) : Obj := ⟨(.type "type"), none, (.cls { name := (sS "PostError"), bases := [(.type "ValueError")], mro := [(.ref 31), (.type "ValueError"), (.type "Exception"), (.type "BaseException"), (.type "object")], ns := 30, qualname := (sS "PostError"), hasDict := true, slotNames := [], subclasses := [(.ref 44), (.ref 56), (.ref 68), (.ref 80), (.ref 92), (.ref 104), (.ref 116)], abstract := false, collection := none, hasDel := false }), ⟨[(some (.ref 22)), none, (some (sV "PostError" 196)), (some (sV "PostError" 204)), (some (.builtin "ValueError.__new__")), (some (.bool true))]⟩⟩
noncomputable def ik (P : Params) : Obj := ⟨(.type "builtin_function_or_method"), none, (.fields ⟨[(.builtin "type.__prepare__"), (.type "type")]⟩), ⟨[]⟩⟩
noncomputable def hZ (P : Params) : Obj := ⟨(.type "dict"), none, (.dict ⟨[en P "__module__" 317 (sV "ringpost.errors" 194), en P "__qualname__" 319 (sV "NoLine" 318), en P "__firstlineno__" 321 (.int (19) 320), en P "__static_attributes__" 322 (.ref 114)]⟩ 4), ⟨[]⟩⟩
noncomputable def hX (P : Params) : Obj := cO "NoLine" 312 "NoLine" 313 314 19 0 0 110 false 181 111 .none .none .none .none 315 19 316
noncomputable def hN (P : Params) : Obj := ⟨(.type "frame"), none, .plain, ⟨[(some (.ref 112)), (some (.ref 3)), (some (.ref 109)), none, (some (sV "ringpost.errors" 194)), none, (some (.ref 0))]⟩⟩
noncomputable def iD (P : Params) : Obj := ⟨(.type "dict"), none, (.dict ⟨[en P "__module__" 317 (sV "ringpost.errors" 194), en P "__firstlineno__" 321 (.int (19) 320), en P "__static_attributes__" 322 (.ref 114), en P "__doc__" 323 .none]⟩ 2), ⟨[]⟩⟩
noncomputable def gV (P : Params) : Obj := ⟨(.type "type"), none, (.cls { name := (sS "NoLine"), bases := [(.ref 31)], mro := [(.ref 116), (.ref 31), (.type "ValueError"), (.type "Exception"), (.type "BaseException"), (.type "object")], ns := 115, qualname := (sS "NoLine"), hasDict := true, slotNames := [], subclasses := [], abstract := false, collection := none, hasDel := false }), ⟨[(some (.ref 107)), none, (some (sV "NoLine" 310)), (some (sV "NoLine" 318)), (some (.builtin "ValueError.__new__")), (some (.bool true))]⟩⟩
noncomputable def jd (P : Params) : Obj := ⟨(.type "super"), none, (.fields ⟨[(.ref 116), (.ref 116), (.ref 116)]⟩), ⟨[]⟩⟩
noncomputable def iT (P : Params) : Obj := ⟨(.type "builtin_function_or_method"), none, (.fields ⟨[(.builtin "object.__init_subclass__"), (.ref 116)]⟩), ⟨[]⟩⟩
noncomputable def je (P : Params) : Obj := tT [(sV "thing" 341), (sV "low" 342), (sV "high" 343)]
noncomputable def jp (P : Params) : Obj := fO "is_among" "is_among" pw.main.body 16
noncomputable def ic (P : Params) : Obj := cO "is_among" 338 "is_among" 339 340 27 3 3 119 true 181 120 .none (.ref 121) (.ref 122) (.ref 123) 344 27 345
noncomputable def iE (P : Params) : Obj := gO "is_among" "is_among" pw.main.body 16 (sV "ringpost.bounds" 326) 124
noncomputable def hJ (P : Params) : Obj := tT [(sV "thing" 350)]
noncomputable def jo (P : Params) : Obj := fO "are_bounds" "are_bounds" pw.main.body 17
noncomputable def iy (P : Params) : Obj := cO "are_bounds" 347 "are_bounds" 348 349 29 1 3 126 true 181 127 .none (.ref 128) (.ref 129) (.ref 130) 351 29 352
noncomputable def hU (P : Params) : Obj := gO "are_bounds" "are_bounds" pw.main.body 17 (sV "ringpost.bounds" 326) 131
noncomputable def gf (P : Params) : Obj := tT [(sV "thing" 357)]
noncomputable def ir (P : Params) : Obj := fO "need_bounds" "need_bounds" pw.main.body 18
noncomputable def fZ (P : Params) : Obj := cO "need_bounds" 354 "need_bounds" 355 356 35 1 3 133 true 181 134 .none (.ref 135) (.ref 136) (.ref 137) 358 35 359
noncomputable def gy (P : Params) : Obj := gO "need_bounds" "need_bounds" pw.main.body 18 (sV "ringpost.bounds" 326) 138
noncomputable def gb (P : Params) : Obj := tT [(sV "thing" 364)]
noncomputable def ij (P : Params) : Obj := fO "need_ring" "need_ring" pw.main.body 19
noncomputable def gc (P : Params) : Obj := cO "need_ring" 361 "need_ring" 362 363 38 1 3 140 true 181 141 .none (.ref 142) (.ref 143) (.ref 144) 365 38 366
noncomputable def gx (P : Params) : Obj := gO "need_ring" "need_ring" pw.main.body 19 (sV "ringpost.bounds" 326) 145
noncomputable def S8 (w : World) (os : OsState) : SharedT := (fun P => ⟨(nN (boot_o_0 P) (nN (boot_o_1 P) (nN (⟨(.type "dict"), none, (.dict ⟨[en P "__name__" 165 (sV "ringpost.bounds" 326), en P "__doc__" 166 .none, en P "__package__" 167 .none, en P "__loader__" 168 (.builtin "__main__.__loader__#opaque"), en P "__spec__" 169 .none, en P "__annotations__" 170 (.ref 6), en P "__builtins__" 171 (.ref 4), en P "__file__" 173 (sV "/claim/cut.py" 172), en P "__cached__" 174 .none, en P "_wall" 193 (.ref 21), en P "PostError" 213 (.ref 31), en P "BadBounds" 229 (.ref 44), en P "BadRing" 245 (.ref 56), en P "BadTexts" 261 (.ref 68), en P "BadStep" 277 (.ref 80), en P "NotNow" 293 (.ref 92), en P "NoLetter" 309 (.ref 104), en P "NoLine" 325 (.ref 116), en P "MOST_WINDOW" 329 (.int (20) 328), en P "MOST_BACK" 331 (.int (20) 330), en P "MOST_RING" 333 (.int (200) 332), en P "MOST_TEXTS" 335 (.int (400) 334), en P "MOST_SIGNS" 337 (.int (40) 336), en P "is_among" 346 (.ref 125), en P "are_bounds" 353 (.ref 132), en P "need_bounds" 360 (.ref 139), en P "need_ring" 367 (.ref 146)]⟩ 27), ⟨[]⟩⟩) (nN (boot_o_7 P) (nN (ec P) (nN (lx P) (nN (zO) (lN (zO)) .nil) (lN (kb P))) (nN (fD P) (nN (gC P) (lN (tT [])) .nil) (lN (zO)))) (nN (eK P) (nN (fq P) (nN (gQ P) (lN (gf P)) .nil) (lN (fB P))) (nN (fS P) (lN (zO)) (lN (tT []))))) (nN (dK P) (nN (eU P) (nN (fA P) (nN (gR P) (lN (iy P)) .nil) (lN (zO))) (nN (gL P) (lN (jD P)) (lN (iD P)))) (nN (eT P) (nN (eP P) (nN (zO) (lN (gy P)) .nil) (lN (tT [(.ref 31)]))) (nN (gP P) (lN (iY P)) (lN (jp P)))))) (nN (boot_o_5 P) (nN (boot_o_9 P) (nN (em P) (nN (fC P) (nN (iL P) (lN (tT [])) .nil) (lN (lH P))) (nN (fW P) (nN (iG P) (lN (gc P)) .nil) (lN (hN P)))) (nN (eV P) (nN (fy P) (nN (iP P) (lN (ir P)) .nil) (lN (gi P))) (nN (gB P) (lN (jW P)) (lN (je P))))) (nN (dM P) (nN (eg P) (nN (fw P) (nN (gS P) (lN (tT [])) .nil) (lN (gw P))) (nN (gN P) (lN (jV P)) (lN (jd P)))) (nN (dX P) (nN (fE P) (nN (iH P) (lN (zO)) .nil) (lN (hZ P))) (nN (iS P) (lN (jZ P)) (lN (iE P))))))) (nN (boot_o_2 P) (nN (boot_o_4 P) (nN (boot_o_8 P) (nN (eN P) (nN (eW P) (nN (iJ P) (lN (hJ P)) .nil) (lN (lP P))) (nN (fV P) (nN (gE P) (lN (ij P)) .nil) (lN (hX P)))) (nN (eM P) (nN (fj P) (nN (iK P) (lN (tT [])) .nil) (lN (fz P))) (nN (fR P) (lN (jU P)) (lN (zO))))) (nN (⟨.none, none, (.fields ⟨[(.int (1) 0), (.int (0) 0), (.ref 20), (.int (5) 0), (.int (0) 0), (.ref 27), (.int (7) 0), (.int (0) 0), (.ref 40), (.int (9) 0), (.int (0) 0), (.ref 52), (.int (11) 0), (.int (0) 0), (.ref 64), (.int (13) 0), (.int (0) 0), (.ref 76), (.int (15) 0), (.int (0) 0), (.ref 88), (.int (17) 0), (.int (0) 0), (.ref 100), (.int (19) 0), (.int (0) 0), (.ref 112), (.int (27) 0), (.int (0) 0), (.ref 124), (.int (29) 0), (.int (0) 0), (.ref 131), (.int (35) 0), (.int (0) 0), (.ref 138), (.int (38) 0), (.int (0) 0), (.ref 145)]⟩), ⟨[]⟩⟩) (nN (ei P) (nN (fT P) (nN (gG P) (lN (hU P)) .nil) (lN (ig P))) (nN (gJ P) (lN (kc P)) (lN (gV P)))) (nN (eJ P) (nN (eO P) (nN (iQ P) (lN (tT [])) .nil) (lN (ik P))) (nN (iI P) (lN (jE P)) (lN (ic P)))))) (nN (boot_o_6 P) (nN (boot_o_10 P) (nN (dU P) (nN (fI P) (nN (gz P) (lN (jo P)) .nil) (lN (tT []))) (nN (fU P) (nN (iF P) (lN (gx P)) .nil) (lN (tT [])))) (nN (eQ P) (nN (eR P) (nN (tT []) (lN (fZ P)) .nil) (lN (gm P))) (nN (gH P) (lN (tT [])) (lN (tT []))))) (nN (dN P) (nN (dY P) (nN (fG P) (nN (gM P) (lN (zO)) .nil) (lN (tT []))) (nN (fX P) (lN (tT [])) (lN (iT P)))) (nN (eh P) (nN (fL P) (nN (gI P) (lN (gb P)) .nil) (lN (tT []))) (nN (tT []) (lN (jY P)) (lN (tT [])))))))), 147, lf0, ⟨[]⟩, ⟨0, 0, 0, 0⟩, 368, os⟩ : Params → SharedT) w.params
noncomputable def Dr : List Stmt := ((behindTheImports pw).drop 9).take 11
noncomputable def Dz (w : World) : Prop := (fun os => segRunT treeTable pw w m0 ann 1 386 (S7 w os) (piecesOf Dr env cE ⟨17, 0, 18, 8⟩ B)) = fun os => some (Flow.next, S8 w os, cE, ⟨38, 0, 40, 63⟩)
theorem pc7 (w : World) : Dz w := by
  unfold Dz
  rw [PySem.W.Fast.te10110043849684766642, PySem.W.Fast.te14364793385576792824]
  kernel_rfl
noncomputable def iW (P : Params) : Obj := tT [(sV "thing" 371), (sV "text" 372)]
noncomputable def lk (P : Params) : Obj := fO "need_texts" "need_texts" pw.main.body 20
noncomputable def jH (P : Params) : Obj := cO "need_texts" 368 "need_texts" 369 370 41 1 3 147 true 181 148 .none (.ref 149) (.ref 150) (.ref 151) 373 41 374
noncomputable def jw (P : Params) : Obj := gO "need_texts" "need_texts" pw.main.body 20 (sV "ringpost.bounds" 326) 152
noncomputable def kS (P : Params) : Obj := ⟨(.type "builtin_function_or_method"), none, (.fields ⟨[(.builtin "type.__prepare__"), (.type "type")]⟩), ⟨[]⟩⟩
noncomputable def kL (P : Params) : Obj := ⟨(.type "dict"), none, (.dict ⟨[en P "__module__" 385 (sV "ringpost.posts" 376), en P "__qualname__" 387 (sV "Post" 386), en P "__firstlineno__" 389 (.int (48) 388), en P "__init__" 397 (.ref 167), en P "first" 404 (.ref 174), en P "posted" 412 (.ref 181), en P "there" 419 (.ref 188), en P "taken" 427 (.ref 195), en P "__static_attributes__" 430 (.ref 196)]⟩ 9), ⟨[]⟩⟩
noncomputable def lf (P : Params) : Obj := ⟨.none, none, (.fields ⟨[(.int (50) 0), (.int (4) 0), (.ref 166), (.int (54) 0), (.int (4) 0), (.ref 173), (.int (57) 0), (.int (4) 0), (.ref 180), (.int (61) 0), (.int (4) 0), (.ref 187), (.int (64) 0), (.int (4) 0), (.ref 194)]⟩), ⟨[]⟩⟩
noncomputable def kY (P : Params) : Obj := cO "Post" 380 "Post" 381 382 48 0 0 157 false 181 158 .none .none .none .none 383 48 384
noncomputable def kj (P : Params) : Obj := ⟨(.type "frame"), none, .plain, ⟨[(some (.ref 159)), (some (.ref 3)), (some (.ref 156)), none, (some (sV "ringpost.posts" 376)), none, (some (.ref 0))]⟩⟩
noncomputable def jm (P : Params) : Obj := tT [(sV "self" 393), (sV "bound" 394)]
noncomputable def jN (P : Params) : Obj := fO "__init__" "Post.__init__" (bx pw.main.body 22) 0
noncomputable def iC (P : Params) : Obj := cO "__init__" 390 "Post.__init__" 391 392 50 2 3 161 true 181 162 .none (.ref 163) (.ref 164) (.ref 165) 395 50 396
noncomputable def gT (P : Params) : Obj := gO "__init__" "Post.__init__" (bx pw.main.body 22) 0 (sV "ringpost.posts" 376) 166
noncomputable def iB (P : Params) : Obj := tT [(sV "self" 401)]
noncomputable def ju (P : Params) : Obj := fO "first" "Post.first" (bx pw.main.body 22) 1
noncomputable def ie (P : Params) : Obj := cO "first" 398 "Post.first" 399 400 54 1 3 168 true 181 169 .none (.ref 170) (.ref 171) (.ref 172) 402 54 403
noncomputable def ia (P : Params) : Obj := gO "first" "Post.first" (bx pw.main.body 22) 1 (sV "ringpost.posts" 376) 173
noncomputable def ib (P : Params) : Obj := tT [(sV "self" 408), (sV "thing" 409)]
noncomputable def lr (P : Params) : Obj := fO "posted" "Post.posted" (bx pw.main.body 22) 2
noncomputable def jf (P : Params) : Obj := cO "posted" 405 "Post.posted" 406 407 57 2 3 175 true 181 176 .none (.ref 177) (.ref 178) (.ref 179) 410 57 411
noncomputable def jb (P : Params) : Obj := gO "posted" "Post.posted" (bx pw.main.body 22) 2 (sV "ringpost.posts" 376) 180
noncomputable def jC (P : Params) : Obj := tT [(sV "self" 416)]
noncomputable def kJ (P : Params) : Obj := fO "there" "Post.there" (bx pw.main.body 22) 3
noncomputable def jB (P : Params) : Obj := cO "there" 413 "Post.there" 414 415 61 1 3 182 true 181 183 .none (.ref 184) (.ref 185) (.ref 186) 417 61 418
noncomputable def jG (P : Params) : Obj := gO "there" "Post.there" (bx pw.main.body 22) 3 (sV "ringpost.posts" 376) 187
noncomputable def jh (P : Params) : Obj := tT [(sV "self" 423), (sV "number" 424)]
noncomputable def lq (P : Params) : Obj := fO "taken" "Post.taken" (bx pw.main.body 22) 4
noncomputable def js (P : Params) : Obj := cO "taken" 420 "Post.taken" 421 422 64 2 3 189 true 181 190 .none (.ref 191) (.ref 192) (.ref 193) 425 64 426
noncomputable def jq (P : Params) : Obj := gO "taken" "Post.taken" (bx pw.main.body 22) 4 (sV "ringpost.posts" 376) 194
noncomputable def jc (P : Params) : Obj := tT [(sV "bound" 428), (sV "things" 429)]
noncomputable def ip (P : Params) : Obj := ⟨(.type "dict"), none, (.dict ⟨[en P "__module__" 385 (sV "ringpost.posts" 376), en P "__firstlineno__" 389 (.int (48) 388), en P "__init__" 397 (.ref 167), en P "first" 404 (.ref 174), en P "posted" 412 (.ref 181), en P "there" 419 (.ref 188), en P "taken" 427 (.ref 195), en P "__static_attributes__" 430 (.ref 196), en P "__dict__" 432 (.ref 199), en P "__weakref__" 434 (.ref 200), en P "__doc__" 435 .none]⟩ 4), ⟨[]⟩⟩
noncomputable def iu (P : Params) : Obj := ⟨(.type "type"), none, (.cls { name := (sS "Post"), bases := [(.type "object")], mro := [(.ref 198), (.type "object")], ns := 197, qualname := (sS "Post"), hasDict := true, slotNames := [], subclasses := [], abstract := false, collection := none, hasDel := false }), ⟨[none, none, (some (sV "Post" 378)), (some (sV "Post" 386)), (some (.builtin "object.__new__")), (some (.bool true))]⟩⟩
noncomputable def gY (P : Params) : Obj := ⟨(.type "getset_descriptor"), none, (.fields ⟨[(sV "__dict__" 431), (.ref 198), (.builtin "function.__dict__"), (.builtin "function.__dict__#set")]⟩), ⟨[]⟩⟩
noncomputable def iz (P : Params) : Obj := ⟨(.type "getset_descriptor"), none, (.fields ⟨[(sV "__weakref__" 433), (.ref 198), (.builtin "ExceptionGroup.__weakref__"), .none]⟩), ⟨[]⟩⟩
noncomputable def jF (P : Params) : Obj := ⟨(.type "super"), none, (.fields ⟨[(.ref 198), (.ref 198), (.ref 198)]⟩), ⟨[]⟩⟩
noncomputable def jx (P : Params) : Obj := ⟨(.type "builtin_function_or_method"), none, (.fields ⟨[(.builtin "object.__init_subclass__"), (.ref 198)]⟩), ⟨[]⟩⟩
noncomputable def S9 (w : World) (os : OsState) : SharedT := (fun P => ⟨(nN (boot_o_0 P) (nN (boot_o_1 P) (nN (⟨(.type "dict"), none, (.dict ⟨[en P "__name__" 165 (sV "ringpost.sides" 438), en P "__doc__" 166 .none, en P "__package__" 167 .none, en P "__loader__" 168 (.builtin "__main__.__loader__#opaque"), en P "__spec__" 169 .none, en P "__annotations__" 170 (.ref 6), en P "__builtins__" 171 (.ref 4), en P "__file__" 173 (sV "/claim/cut.py" 172), en P "__cached__" 174 .none, en P "_wall" 193 (.ref 21), en P "PostError" 213 (.ref 31), en P "BadBounds" 229 (.ref 44), en P "BadRing" 245 (.ref 56), en P "BadTexts" 261 (.ref 68), en P "BadStep" 277 (.ref 80), en P "NotNow" 293 (.ref 92), en P "NoLetter" 309 (.ref 104), en P "NoLine" 325 (.ref 116), en P "MOST_WINDOW" 329 (.int (20) 328), en P "MOST_BACK" 331 (.int (20) 330), en P "MOST_RING" 333 (.int (200) 332), en P "MOST_TEXTS" 335 (.int (400) 334), en P "MOST_SIGNS" 337 (.int (40) 336), en P "is_among" 346 (.ref 125), en P "are_bounds" 353 (.ref 132), en P "need_bounds" 360 (.ref 139), en P "need_ring" 367 (.ref 146), en P "need_texts" 375 (.ref 153), en P "Post" 437 (.ref 198)]⟩ 29), ⟨[]⟩⟩) (nN (boot_o_7 P) (nN (ec P) (nN (lx P) (nN (zO) (lN (zO)) (lN (jh P))) (nN (kb P) (lN (kY P)) .nil)) (nN (fD P) (nN (gC P) (lN (tT [])) .nil) (nN (zO) (lN (tT [])) .nil))) (nN (eK P) (nN (fq P) (nN (gQ P) (lN (gf P)) (lN (gY P))) (nN (fB P) (lN (gT P)) .nil)) (nN (fS P) (nN (zO) (lN (lk P)) .nil) (nN (tT []) (lN (zO)) .nil)))) (nN (dK P) (nN (eU P) (nN (fA P) (nN (gR P) (lN (iy P)) (lN (jq P))) (nN (zO) (lN (jm P)) .nil)) (nN (gL P) (nN (jD P) (lN (tT [])) .nil) (nN (iD P) (lN (lr P)) .nil))) (nN (eT P) (nN (eP P) (nN (zO) (lN (gy P)) .nil) (nN (tT [(.ref 31)]) (lN (tT [])) .nil)) (nN (gP P) (nN (iY P) (lN (kS P)) .nil) (nN (jp P) (lN (jB P)) .nil))))) (nN (boot_o_5 P) (nN (boot_o_9 P) (nN (em P) (nN (fC P) (nN (iL P) (lN (tT [])) (lN (lq P))) (nN (lH P) (lN (tT [])) .nil)) (nN (fW P) (nN (iG P) (lN (gc P)) .nil) (nN (hN P) (lN (ib P)) .nil))) (nN (eV P) (nN (fy P) (nN (iP P) (lN (ir P)) (lN (jF P))) (nN (gi P) (lN (zO)) .nil)) (nN (gB P) (nN (jW P) (lN (jw P)) .nil) (nN (je P) (lN (tT [])) .nil)))) (nN (dM P) (nN (eg P) (nN (fw P) (nN (gS P) (lN (tT [])) (lN (ip P))) (nN (gw P) (lN (jN P)) .nil)) (nN (gN P) (nN (jV P) (lN (iW P)) .nil) (nN (jd P) (lN (jb P)) .nil))) (nN (dX P) (nN (fE P) (nN (iH P) (lN (zO)) .nil) (nN (hZ P) (lN (ie P)) .nil)) (nN (iS P) (nN (jZ P) (lN (tT [])) .nil) (nN (iE P) (lN (tT [])) .nil)))))) (nN (boot_o_2 P) (nN (boot_o_4 P) (nN (boot_o_8 P) (nN (eN P) (nN (eW P) (nN (iJ P) (lN (hJ P)) (lN (tT []))) (nN (lP P) (lN (kj P)) .nil)) (nN (fV P) (nN (gE P) (lN (ij P)) .nil) (nN (hX P) (lN (zO)) .nil))) (nN (eM P) (nN (fj P) (nN (iK P) (lN (tT [])) (lN (iz P))) (nN (fz P) (lN (tT [])) .nil)) (nN (fR P) (nN (jU P) (lN (jH P)) .nil) (nN (zO) (lN (jC P)) .nil)))) (nN (⟨.none, none, (.fields ⟨[(.int (1) 0), (.int (0) 0), (.ref 20), (.int (5) 0), (.int (0) 0), (.ref 27), (.int (7) 0), (.int (0) 0), (.ref 40), (.int (9) 0), (.int (0) 0), (.ref 52), (.int (11) 0), (.int (0) 0), (.ref 64), (.int (13) 0), (.int (0) 0), (.ref 76), (.int (15) 0), (.int (0) 0), (.ref 88), (.int (17) 0), (.int (0) 0), (.ref 100), (.int (19) 0), (.int (0) 0), (.ref 112), (.int (27) 0), (.int (0) 0), (.ref 124), (.int (29) 0), (.int (0) 0), (.ref 131), (.int (35) 0), (.int (0) 0), (.ref 138), (.int (38) 0), (.int (0) 0), (.ref 145), (.int (41) 0), (.int (0) 0), (.ref 152), (.int (48) 0), (.int (0) 0), (.ref 159)]⟩), ⟨[]⟩⟩) (nN (ei P) (nN (fT P) (nN (gG P) (lN (hU P)) (lN (jc P))) (nN (ig P) (lN (tT [])) .nil)) (nN (gJ P) (nN (kc P) (lN (zO)) .nil) (nN (gV P) (lN (jf P)) .nil))) (nN (eJ P) (nN (eO P) (nN (iQ P) (lN (tT [])) .nil) (nN (ik P) (lN (ju P)) .nil)) (nN (iI P) (nN (jE P) (lN (kL P)) .nil) (nN (ic P) (lN (jG P)) .nil))))) (nN (boot_o_6 P) (nN (boot_o_10 P) (nN (dU P) (nN (fI P) (nN (gz P) (lN (jo P)) (lN (js P))) (nN (tT []) (lN (zO)) .nil)) (nN (fU P) (nN (iF P) (lN (gx P)) .nil) (nN (tT []) (lN (tT [])) .nil))) (nN (eQ P) (nN (eR P) (nN (tT []) (lN (fZ P)) (lN (jx P))) (nN (gm P) (lN (iB P)) .nil)) (nN (gH P) (nN (tT []) (lN (tT [])) .nil) (nN (tT []) (lN (kJ P)) .nil)))) (nN (dN P) (nN (dY P) (nN (fG P) (nN (gM P) (lN (zO)) (lN (iu P))) (nN (tT []) (lN (iC P)) .nil)) (nN (fX P) (nN (tT []) (lN (tT [])) .nil) (nN (iT P) (lN (tT [])) .nil))) (nN (eh P) (nN (fL P) (nN (gI P) (lN (gb P)) .nil) (nN (tT []) (lN (ia P)) .nil)) (nN (tT []) (nN (jY P) (lN (lf P)) .nil) (nN (tT []) (lN (zO)) .nil))))))), 203, lf0, ⟨[]⟩, ⟨0, 0, 0, 0⟩, 440, os⟩ : Params → SharedT) w.params
noncomputable def Et : List Stmt := ((behindTheImports pw).drop 20).take 4
noncomputable def Ew (w : World) : Prop := (fun os => segRunT treeTable pw w m0 ann 1 398 (S8 w os) (piecesOf Et env cE ⟨38, 0, 40, 63⟩ B)) = fun os => some (Flow.next, S9 w os, cE, ⟨68, 0, 68, 8⟩)
theorem pc8 (w : World) : Ew w := by
  unfold Ew
  rw [PySem.W.Fast.te10110043849684766642, PySem.W.Fast.te14364793385576792824]
  kernel_rfl
noncomputable def kG (P : Params) : Obj := ⟨(.type "builtin_function_or_method"), none, (.fields ⟨[(.builtin "type.__prepare__"), (.type "type")]⟩), ⟨[]⟩⟩
noncomputable def kX (P : Params) : Obj := ⟨(.type "dict"), none, (.dict ⟨[en P "__module__" 447 (sV "ringpost.sides" 438), en P "__qualname__" 449 (sV "Sender" 448), en P "__firstlineno__" 451 (.int (69) 450), en P "__init__" 461 (.ref 216), en P "span" 468 (.ref 223), en P "sent" 477 (.ref 230), en P "heard" 486 (.ref 237), en P "__static_attributes__" 492 (.ref 238)]⟩ 8), ⟨[]⟩⟩
noncomputable def lg (P : Params) : Obj := ⟨.none, none, (.fields ⟨[(.int (71) 0), (.int (4) 0), (.ref 215), (.int (78) 0), (.int (4) 0), (.ref 222), (.int (81) 0), (.int (4) 0), (.ref 229), (.int (89) 0), (.int (4) 0), (.ref 236)]⟩), ⟨[]⟩⟩
noncomputable def kD (P : Params) : Obj := cO "Sender" 442 "Sender" 443 444 69 0 0 206 false 181 207 .none .none .none .none 445 69 446
noncomputable def kO (P : Params) : Obj := ⟨(.type "frame"), none, .plain, ⟨[(some (.ref 208)), (some (.ref 3)), (some (.ref 205)), none, (some (sV "ringpost.sides" 438)), none, (some (.ref 0))]⟩⟩
noncomputable def ls (P : Params) : Obj := tT [(sV "self" 455), (sV "window" 456), (sV "ring" 457), (sV "many" 458)]
noncomputable def mQ (P : Params) : Obj := fO "__init__" "Sender.__init__" (bx pw.main.body 24) 0
noncomputable def kR (P : Params) : Obj := cO "__init__" 452 "Sender.__init__" 453 454 71 4 3 210 true 181 211 .none (.ref 212) (.ref 213) (.ref 214) 459 71 460
noncomputable def lp (P : Params) : Obj := gO "__init__" "Sender.__init__" (bx pw.main.body 24) 0 (sV "ringpost.sides" 438) 215
noncomputable def ku (P : Params) : Obj := tT [(sV "self" 465)]
noncomputable def lY (P : Params) : Obj := fO "span" "Sender.span" (bx pw.main.body 24) 1
noncomputable def kK (P : Params) : Obj := cO "span" 462 "Sender.span" 463 464 78 1 3 217 true 181 218 .none (.ref 219) (.ref 220) (.ref 221) 466 78 467
noncomputable def kB (P : Params) : Obj := gO "span" "Sender.span" (bx pw.main.body 24) 1 (sV "ringpost.sides" 438) 222
noncomputable def kT (P : Params) : Obj := tT [(sV "self" 472), (sV "k" 473), (sV "last" 474)]
noncomputable def mP (P : Params) : Obj := fO "sent" "Sender.sent" (bx pw.main.body 24) 2
noncomputable def ja (P : Params) : Obj := cO "sent" 469 "Sender.sent" 470 471 81 2 3 224 true 181 225 .none (.ref 226) (.ref 227) (.ref 228) 475 81 476
noncomputable def iV (P : Params) : Obj := gO "sent" "Sender.sent" (bx pw.main.body 24) 2 (sV "ringpost.sides" 438) 229
noncomputable def jl (P : Params) : Obj := tT [(sV "self" 481), (sV "number" 482), (sV "step" 483)]
noncomputable def kz (P : Params) : Obj := fO "heard" "Sender.heard" (bx pw.main.body 24) 3
noncomputable def ji (P : Params) : Obj := cO "heard" 478 "Sender.heard" 479 480 89 2 3 231 true 181 232 .none (.ref 233) (.ref 234) (.ref 235) 484 89 485
noncomputable def jO (P : Params) : Obj := gO "heard" "Sender.heard" (bx pw.main.body 24) 3 (sV "ringpost.sides" 438) 236
noncomputable def jv (P : Params) : Obj := tT [(sV "base" 487), (sV "many" 488), (sV "ring" 489), (sV "top" 490), (sV "window" 491)]
noncomputable def iZ (P : Params) : Obj := ⟨(.type "dict"), none, (.dict ⟨[en P "__module__" 447 (sV "ringpost.sides" 438), en P "__firstlineno__" 451 (.int (69) 450), en P "__init__" 461 (.ref 216), en P "span" 468 (.ref 223), en P "sent" 477 (.ref 230), en P "heard" 486 (.ref 237), en P "__static_attributes__" 492 (.ref 238), en P "__dict__" 494 (.ref 241), en P "__weakref__" 496 (.ref 242), en P "__doc__" 497 .none]⟩ 4), ⟨[]⟩⟩
noncomputable def iX (P : Params) : Obj := ⟨(.type "type"), none, (.cls { name := (sS "Sender"), bases := [(.type "object")], mro := [(.ref 240), (.type "object")], ns := 239, qualname := (sS "Sender"), hasDict := true, slotNames := [], subclasses := [], abstract := false, collection := none, hasDel := false }), ⟨[none, none, (some (sV "Sender" 440)), (some (sV "Sender" 448)), (some (.builtin "object.__new__")), (some (.bool true))]⟩⟩
noncomputable def jj (P : Params) : Obj := ⟨(.type "getset_descriptor"), none, (.fields ⟨[(sV "__dict__" 493), (.ref 240), (.builtin "function.__dict__"), (.builtin "function.__dict__#set")]⟩), ⟨[]⟩⟩
noncomputable def jy (P : Params) : Obj := ⟨(.type "getset_descriptor"), none, (.fields ⟨[(sV "__weakref__" 495), (.ref 240), (.builtin "ExceptionGroup.__weakref__"), .none]⟩), ⟨[]⟩⟩
noncomputable def mI (P : Params) : Obj := ⟨(.type "super"), none, (.fields ⟨[(.ref 240), (.ref 240), (.ref 240)]⟩), ⟨[]⟩⟩
noncomputable def mu (P : Params) : Obj := ⟨(.type "builtin_function_or_method"), none, (.fields ⟨[(.builtin "object.__init_subclass__"), (.ref 240)]⟩), ⟨[]⟩⟩
noncomputable def S10 (w : World) (os : OsState) : SharedT := (fun P => ⟨(nN (boot_o_0 P) (nN (boot_o_1 P) (nN (⟨(.type "dict"), none, (.dict ⟨[en P "__name__" 165 (sV "ringpost.sides" 438), en P "__doc__" 166 .none, en P "__package__" 167 .none, en P "__loader__" 168 (.builtin "__main__.__loader__#opaque"), en P "__spec__" 169 .none, en P "__annotations__" 170 (.ref 6), en P "__builtins__" 171 (.ref 4), en P "__file__" 173 (sV "/claim/cut.py" 172), en P "__cached__" 174 .none, en P "_wall" 193 (.ref 21), en P "PostError" 213 (.ref 31), en P "BadBounds" 229 (.ref 44), en P "BadRing" 245 (.ref 56), en P "BadTexts" 261 (.ref 68), en P "BadStep" 277 (.ref 80), en P "NotNow" 293 (.ref 92), en P "NoLetter" 309 (.ref 104), en P "NoLine" 325 (.ref 116), en P "MOST_WINDOW" 329 (.int (20) 328), en P "MOST_BACK" 331 (.int (20) 330), en P "MOST_RING" 333 (.int (200) 332), en P "MOST_TEXTS" 335 (.int (400) 334), en P "MOST_SIGNS" 337 (.int (40) 336), en P "is_among" 346 (.ref 125), en P "are_bounds" 353 (.ref 132), en P "need_bounds" 360 (.ref 139), en P "need_ring" 367 (.ref 146), en P "need_texts" 375 (.ref 153), en P "Post" 437 (.ref 198), en P "Sender" 499 (.ref 240)]⟩ 30), ⟨[]⟩⟩) (nN (boot_o_7 P) (nN (ec P) (nN (lx P) (nN (zO) (lN (zO)) (lN (jh P))) (nN (kb P) (lN (kY P)) (lN (kB P)))) (nN (fD P) (nN (gC P) (lN (tT [])) (lN (lg P))) (nN (zO) (lN (tT [])) (lN (iZ P))))) (nN (eK P) (nN (fq P) (nN (gQ P) (lN (gf P)) (lN (gY P))) (nN (fB P) (lN (gT P)) (lN (tT [])))) (nN (fS P) (nN (zO) (lN (lk P)) (lN (kR P))) (nN (tT []) (lN (zO)) .nil)))) (nN (dK P) (nN (eU P) (nN (fA P) (nN (gR P) (lN (iy P)) (lN (jq P))) (nN (zO) (lN (jm P)) (lN (tT [])))) (nN (gL P) (nN (jD P) (lN (tT [])) (lN (zO))) (nN (iD P) (lN (lr P)) (lN (mI P))))) (nN (eT P) (nN (eP P) (nN (zO) (lN (gy P)) (lN (tT []))) (nN (tT [(.ref 31)]) (lN (tT [])) (lN (kz P)))) (nN (gP P) (nN (iY P) (lN (kS P)) (lN (ku P))) (nN (jp P) (lN (jB P)) .nil))))) (nN (boot_o_5 P) (nN (boot_o_9 P) (nN (em P) (nN (fC P) (nN (iL P) (lN (tT [])) (lN (lq P))) (nN (lH P) (lN (tT [])) (lN (zO)))) (nN (fW P) (nN (iG P) (lN (gc P)) (lN (kO P))) (nN (hN P) (lN (ib P)) (lN (jj P))))) (nN (eV P) (nN (fy P) (nN (iP P) (lN (ir P)) (lN (jF P))) (nN (gi P) (lN (zO)) (lN (jl P)))) (nN (gB P) (nN (jW P) (lN (jw P)) (lN (tT []))) (nN (je P) (lN (tT [])) .nil)))) (nN (dM P) (nN (eg P) (nN (fw P) (nN (gS P) (lN (tT [])) (lN (ip P))) (nN (gw P) (lN (jN P)) (lN (ja P)))) (nN (gN P) (nN (jV P) (lN (iW P)) (lN (tT []))) (nN (jd P) (lN (jb P)) .nil))) (nN (dX P) (nN (fE P) (nN (iH P) (lN (zO)) (lN (kX P))) (nN (hZ P) (lN (ie P)) (lN (jO P)))) (nN (iS P) (nN (jZ P) (lN (tT [])) (lN (lY P))) (nN (iE P) (lN (tT [])) .nil)))))) (nN (boot_o_2 P) (nN (boot_o_4 P) (nN (boot_o_8 P) (nN (eN P) (nN (eW P) (nN (iJ P) (lN (hJ P)) (lN (tT []))) (nN (lP P) (lN (kj P)) (lN (tT [])))) (nN (fV P) (nN (gE P) (lN (ij P)) (lN (kD P))) (nN (hX P) (lN (zO)) (lN (iX P))))) (nN (eM P) (nN (fj P) (nN (iK P) (lN (tT [])) (lN (iz P))) (nN (fz P) (lN (tT [])) (lN (zO)))) (nN (fR P) (nN (jU P) (lN (jH P)) (lN (lp P))) (nN (zO) (lN (jC P)) .nil)))) (nN (⟨.none, none, (.fields ⟨[(.int (1) 0), (.int (0) 0), (.ref 20), (.int (5) 0), (.int (0) 0), (.ref 27), (.int (7) 0), (.int (0) 0), (.ref 40), (.int (9) 0), (.int (0) 0), (.ref 52), (.int (11) 0), (.int (0) 0), (.ref 64), (.int (13) 0), (.int (0) 0), (.ref 76), (.int (15) 0), (.int (0) 0), (.ref 88), (.int (17) 0), (.int (0) 0), (.ref 100), (.int (19) 0), (.int (0) 0), (.ref 112), (.int (27) 0), (.int (0) 0), (.ref 124), (.int (29) 0), (.int (0) 0), (.ref 131), (.int (35) 0), (.int (0) 0), (.ref 138), (.int (38) 0), (.int (0) 0), (.ref 145), (.int (41) 0), (.int (0) 0), (.ref 152), (.int (48) 0), (.int (0) 0), (.ref 159), (.int (69) 0), (.int (0) 0), (.ref 208)]⟩), ⟨[]⟩⟩) (nN (ei P) (nN (fT P) (nN (gG P) (lN (hU P)) (lN (jc P))) (nN (ig P) (lN (tT [])) (lN (mP P)))) (nN (gJ P) (nN (kc P) (lN (zO)) (lN (ls P))) (nN (gV P) (lN (jf P)) (lN (mu P))))) (nN (eJ P) (nN (eO P) (nN (iQ P) (lN (tT [])) (lN (kG P))) (nN (ik P) (lN (ju P)) (lN (ji P)))) (nN (iI P) (nN (jE P) (lN (kL P)) (lN (tT []))) (nN (ic P) (lN (jG P)) .nil))))) (nN (boot_o_6 P) (nN (boot_o_10 P) (nN (dU P) (nN (fI P) (nN (gz P) (lN (jo P)) (lN (js P))) (nN (tT []) (lN (zO)) (lN (kT P)))) (nN (fU P) (nN (iF P) (lN (gx P)) (lN (tT []))) (nN (tT []) (lN (tT [])) (lN (jy P))))) (nN (eQ P) (nN (eR P) (nN (tT []) (lN (fZ P)) (lN (jx P))) (nN (gm P) (lN (iB P)) (lN (tT [])))) (nN (gH P) (nN (tT []) (lN (tT [])) (lN (zO))) (nN (tT []) (lN (kJ P)) .nil)))) (nN (dN P) (nN (dY P) (nN (fG P) (nN (gM P) (lN (zO)) (lN (iu P))) (nN (tT []) (lN (iC P)) (lN (iV P)))) (nN (fX P) (nN (tT []) (lN (tT [])) (lN (mQ P))) (nN (iT P) (lN (tT [])) .nil))) (nN (eh P) (nN (fL P) (nN (gI P) (lN (gb P)) (lN (tT []))) (nN (tT []) (lN (ia P)) (lN (jv P)))) (nN (tT []) (nN (jY P) (lN (lf P)) (lN (kK P))) (nN (tT []) (lN (zO)) .nil))))))), 245, lf0, ⟨[]⟩, ⟨0, 0, 0, 0⟩, 500, os⟩ : Params → SharedT) w.params
noncomputable def Ei : List Stmt := ((behindTheImports pw).drop 24).take 1
noncomputable def Ez (w : World) : Prop := (fun os => segRunT treeTable pw w m0 ann 1 326 (S9 w os) (piecesOf Ei env cE ⟨68, 0, 68, 8⟩ B)) = fun os => some (Flow.next, S10 w os, cE, ⟨69, 0, 92, 40⟩)
theorem pc9 (w : World) : Ez w := by
  unfold Ez
  rw [PySem.W.Fast.te10110043849684766642, PySem.W.Fast.te14364793385576792824]
  kernel_rfl
noncomputable def oL (P : Params) : Obj := ⟨(.type "builtin_function_or_method"), none, (.fields ⟨[(.builtin "type.__prepare__"), (.type "type")]⟩), ⟨[]⟩⟩
noncomputable def nJ (P : Params) : Obj := ⟨(.type "dict"), none, (.dict ⟨[en P "__module__" 507 (sV "ringpost.sides" 438), en P "__qualname__" 509 (sV "Taker" 508), en P "__firstlineno__" 511 (.int (93) 510), en P "__init__" 520 (.ref 258), en P "came" 530 (.ref 265), en P "want" 537 (.ref 272), en P "gone" 544 (.ref 279), en P "kept" 550 (.ref 284), en P "__static_attributes__" 556 (.ref 285)]⟩ 9), ⟨[]⟩⟩
noncomputable def rI (P : Params) : Obj := ⟨.none, none, (.fields ⟨[(.int (95) 0), (.int (4) 0), (.ref 257), (.int (102) 0), (.int (4) 0), (.ref 264), (.int (111) 0), (.int (4) 0), (.ref 271), (.int (114) 0), (.int (4) 0), (.ref 278), (.int (117) 0), (.int (4) 0), (.ref 283)]⟩), ⟨[]⟩⟩
noncomputable def oZ (P : Params) : Obj := cO "Taker" 502 "Taker" 503 504 93 0 0 248 false 181 249 .none .none .none .none 505 93 506
noncomputable def oJ (P : Params) : Obj := ⟨(.type "frame"), none, .plain, ⟨[(some (.ref 250)), (some (.ref 3)), (some (.ref 247)), none, (some (sV "ringpost.sides" 438)), none, (some (.ref 0))]⟩⟩
noncomputable def mr (P : Params) : Obj := tT [(sV "self" 515), (sV "room" 516), (sV "ring" 517)]
noncomputable def nY (P : Params) : Obj := fO "__init__" "Taker.__init__" (bx pw.main.body 25) 0
noncomputable def mK (P : Params) : Obj := cO "__init__" 512 "Taker.__init__" 513 514 95 3 3 252 true 181 253 .none (.ref 254) (.ref 255) (.ref 256) 518 95 519
noncomputable def lS (P : Params) : Obj := gO "__init__" "Taker.__init__" (bx pw.main.body 25) 0 (sV "ringpost.sides" 438) 257
noncomputable def lm (P : Params) : Obj := tT [(sV "self" 524), (sV "number" 525), (sV "text" 526), (sV "step" 527)]
noncomputable def mh (P : Params) : Obj := fO "came" "Taker.came" (bx pw.main.body 25) 1
noncomputable def lj (P : Params) : Obj := cO "came" 521 "Taker.came" 522 523 102 3 3 259 true 181 260 .none (.ref 261) (.ref 262) (.ref 263) 528 102 529
noncomputable def kQ (P : Params) : Obj := gO "came" "Taker.came" (bx pw.main.body 25) 1 (sV "ringpost.sides" 438) 264
noncomputable def kP (P : Params) : Obj := tT [(sV "self" 534)]
noncomputable def md (P : Params) : Obj := fO "want" "Taker.want" (bx pw.main.body 25) 2
noncomputable def kW (P : Params) : Obj := cO "want" 531 "Taker.want" 532 533 111 1 3 266 true 181 267 .none (.ref 268) (.ref 269) (.ref 270) 535 111 536
noncomputable def kt (P : Params) : Obj := gO "want" "Taker.want" (bx pw.main.body 25) 2 (sV "ringpost.sides" 438) 271
noncomputable def mD (P : Params) : Obj := tT [(sV "self" 541)]
noncomputable def oE (P : Params) : Obj := fO "gone" "Taker.gone" (bx pw.main.body 25) 3
noncomputable def lU (P : Params) : Obj := cO "gone" 538 "Taker.gone" 539 540 114 1 3 273 true 181 274 .none (.ref 275) (.ref 276) (.ref 277) 542 114 543
noncomputable def ma (P : Params) : Obj := gO "gone" "Taker.gone" (bx pw.main.body 25) 3 (sV "ringpost.sides" 438) 278
noncomputable def oM (P : Params) : Obj := fO "kept" "Taker.kept" (bx pw.main.body 25) 4
noncomputable def mO (P : Params) : Obj := cO "kept" 545 "Taker.kept" 546 547 117 1 3 280 true 181 281 .none .none .none (.ref 282) 548 117 549
noncomputable def mB (P : Params) : Obj := gO "kept" "Taker.kept" (bx pw.main.body 25) 4 (sV "ringpost.sides" 438) 283
noncomputable def lX (P : Params) : Obj := tT [(sV "early" 551), (sV "own" 552), (sV "place" 553), (sV "ring" 554), (sV "room" 555)]
noncomputable def mw (P : Params) : Obj := ⟨(.type "dict"), none, (.dict ⟨[en P "__module__" 507 (sV "ringpost.sides" 438), en P "__firstlineno__" 511 (.int (93) 510), en P "__init__" 520 (.ref 258), en P "came" 530 (.ref 265), en P "want" 537 (.ref 272), en P "gone" 544 (.ref 279), en P "kept" 550 (.ref 284), en P "__static_attributes__" 556 (.ref 285), en P "__dict__" 558 (.ref 288), en P "__weakref__" 560 (.ref 289), en P "__doc__" 561 .none]⟩ 4), ⟨[]⟩⟩
noncomputable def mE (P : Params) : Obj := ⟨(.type "type"), none, (.cls { name := (sS "Taker"), bases := [(.type "object")], mro := [(.ref 287), (.type "object")], ns := 286, qualname := (sS "Taker"), hasDict := true, slotNames := [], subclasses := [], abstract := false, collection := none, hasDel := false }), ⟨[none, none, (some (sV "Taker" 500)), (some (sV "Taker" 508)), (some (.builtin "object.__new__")), (some (.bool true))]⟩⟩
noncomputable def lT (P : Params) : Obj := ⟨(.type "getset_descriptor"), none, (.fields ⟨[(sV "__dict__" 557), (.ref 287), (.builtin "function.__dict__"), (.builtin "function.__dict__#set")]⟩), ⟨[]⟩⟩
noncomputable def mz (P : Params) : Obj := ⟨(.type "getset_descriptor"), none, (.fields ⟨[(sV "__weakref__" 559), (.ref 287), (.builtin "ExceptionGroup.__weakref__"), .none]⟩), ⟨[]⟩⟩
noncomputable def oU (P : Params) : Obj := ⟨(.type "super"), none, (.fields ⟨[(.ref 287), (.ref 287), (.ref 287)]⟩), ⟨[]⟩⟩
noncomputable def oR (P : Params) : Obj := ⟨(.type "builtin_function_or_method"), none, (.fields ⟨[(.builtin "object.__init_subclass__"), (.ref 287)]⟩), ⟨[]⟩⟩
noncomputable def mj (P : Params) : Obj := tT [(sV "send" 566), (sV "hand" 567), (sV "tell" 568)]
noncomputable def Dq (P : Params) : BT := (nN (lx P) (nN (zO) (nN (zO) (lN (tT [])) .nil) (lN (jh P))) (nN (kb P) (nN (kY P) (lN (mE P)) .nil) (lN (kB P))))
noncomputable def Ef (P : Params) : BT := (nN (fS P) (nN (zO) (nN (lk P) (lN (ma P)) .nil) (lN (kR P))) (nN (tT []) (lN (zO)) (lN (nJ P))))
noncomputable def Dy (P : Params) : BT := (nN (fA P) (nN (gR P) (nN (iy P) (lN (tT [])) .nil) (lN (jq P))) (nN (zO) (nN (jm P) (lN (oR P)) .nil) (lN (tT []))))
noncomputable def EM (P : Params) : BT := (nN (gL P) (nN (jD P) (nN (tT []) (lN (mD P)) .nil) (lN (zO))) (nN (iD P) (lN (lr P)) (lN (mI P))))
noncomputable def Er (P : Params) : BT := (nN (gP P) (nN (iY P) (nN (kS P) (lN (mO P)) .nil) (lN (ku P))) (nN (jp P) (lN (jB P)) (lN (oJ P))))
noncomputable def DE (P : Params) : BT := (nN (fC P) (nN (iL P) (nN (tT []) (lN (mK P)) .nil) (lN (lq P))) (nN (lH P) (nN (tT []) (lN (mz P)) .nil) (lN (zO))))
noncomputable def DS (P : Params) : BT := (nN (gB P) (nN (jW P) (nN (jw P) (lN (zO)) .nil) (lN (tT []))) (nN (je P) (lN (tT [])) (lN (rI P))))
noncomputable def CU (P : Params) : BT := (nN (gN P) (nN (jV P) (nN (iW P) (lN (oE P)) .nil) (lN (tT []))) (nN (jd P) (lN (jb P)) (lN (tT []))))
noncomputable def DF (P : Params) : BT := (nN (iS P) (nN (jZ P) (nN (tT []) (lN (lX P)) .nil) (lN (lY P))) (nN (iE P) (lN (tT [])) (lN (zO))))
noncomputable def Ex (P : Params) : BT := (nN (eW P) (nN (iJ P) (nN (hJ P) (lN (nY P)) .nil) (lN (tT []))) (nN (lP P) (nN (kj P) (lN (lT P)) .nil) (lN (tT []))))
noncomputable def Ek (P : Params) : BT := (nN (fR P) (nN (jU P) (nN (jH P) (lN (tT [])) .nil) (lN (lp P))) (nN (zO) (lN (jC P)) (lN (tT []))))
noncomputable def EG (P : Params) : BT := (nN (fT P) (nN (gG P) (nN (hU P) (lN (zO)) .nil) (lN (jc P))) (nN (ig P) (nN (tT []) (lN (mj P)) .nil) (lN (mP P))))
noncomputable def DA (P : Params) : BT := (nN (gJ P) (nN (kc P) (nN (zO) (lN (tT [])) .nil) (lN (ls P))) (nN (gV P) (lN (jf P)) (lN (mu P))))
noncomputable def EW (P : Params) : BT := (nN (iI P) (nN (jE P) (nN (kL P) (lN (mB P)) .nil) (lN (tT []))) (nN (ic P) (lN (jG P)) (lN (tT []))))
noncomputable def Es (P : Params) : BT := (nN (fI P) (nN (gz P) (nN (jo P) (lN (lS P)) .nil) (lN (js P))) (nN (tT []) (nN (zO) (lN (oU P)) .nil) (lN (kT P))))
noncomputable def EX (P : Params) : BT := (nN (gH P) (nN (tT []) (nN (tT []) (lN (oM P)) .nil) (lN (zO))) (nN (tT []) (lN (kJ P)) (lN (oZ P))))
noncomputable def En (P : Params) : BT := (nN (fX P) (nN (tT []) (nN (tT []) (lN (lU P)) .nil) (lN (mQ P))) (nN (iT P) (lN (tT [])) (lN (oL P))))
noncomputable def DT (P : Params) : BT := (nN (tT []) (nN (jY P) (nN (lf P) (lN (mw P)) .nil) (lN (kK P))) (nN (tT []) (lN (zO)) (lN (mr P))))
noncomputable def S11 (w : World) (os : OsState) : SharedT := (fun P => ⟨(nN (boot_o_0 P) (nN (boot_o_1 P) (nN (⟨(.type "dict"), none, (.dict ⟨[en P "__name__" 165 (sV "ringpost.runs" 564), en P "__doc__" 166 .none, en P "__package__" 167 .none, en P "__loader__" 168 (.builtin "__main__.__loader__#opaque"), en P "__spec__" 169 .none, en P "__annotations__" 170 (.ref 6), en P "__builtins__" 171 (.ref 4), en P "__file__" 173 (sV "/claim/cut.py" 172), en P "__cached__" 174 .none, en P "_wall" 193 (.ref 21), en P "PostError" 213 (.ref 31), en P "BadBounds" 229 (.ref 44), en P "BadRing" 245 (.ref 56), en P "BadTexts" 261 (.ref 68), en P "BadStep" 277 (.ref 80), en P "NotNow" 293 (.ref 92), en P "NoLetter" 309 (.ref 104), en P "NoLine" 325 (.ref 116), en P "MOST_WINDOW" 329 (.int (20) 328), en P "MOST_BACK" 331 (.int (20) 330), en P "MOST_RING" 333 (.int (200) 332), en P "MOST_TEXTS" 335 (.int (400) 334), en P "MOST_SIGNS" 337 (.int (40) 336), en P "is_among" 346 (.ref 125), en P "are_bounds" 353 (.ref 132), en P "need_bounds" 360 (.ref 139), en P "need_ring" 367 (.ref 146), en P "need_texts" 375 (.ref 153), en P "Post" 437 (.ref 198), en P "Sender" 499 (.ref 240), en P "Taker" 563 (.ref 287), en P "WORDS" 569 (.ref 292), en P "MOST_NUMBER" 571 (.int (999999) 570)]⟩ 33), ⟨[]⟩⟩) (nN (boot_o_7 P) (nN (ec P) (Dq P) (nN (fD P) (nN (gC P) (nN (tT []) (lN (kW P)) .nil) (lN (lg P))) (nN (zO) (lN (tT [])) (lN (iZ P))))) (nN (eK P) (nN (fq P) (nN (gQ P) (nN (gf P) (lN (mh P)) .nil) (lN (gY P))) (nN (fB P) (lN (gT P)) (lN (tT [])))) (Ef P))) (nN (dK P) (nN (eU P) (Dy P) (EM P)) (nN (eT P) (nN (eP P) (nN (zO) (nN (gy P) (lN (zO)) .nil) (lN (tT []))) (nN (tT [(.ref 31)]) (lN (tT [])) (lN (kz P)))) (Er P)))) (nN (boot_o_5 P) (nN (boot_o_9 P) (nN (em P) (DE P) (nN (fW P) (nN (iG P) (nN (gc P) (lN (tT [])) .nil) (lN (kO P))) (nN (hN P) (lN (ib P)) (lN (jj P))))) (nN (eV P) (nN (fy P) (nN (iP P) (nN (ir P) (lN (kQ P)) .nil) (lN (jF P))) (nN (gi P) (lN (zO)) (lN (jl P)))) (DS P))) (nN (dM P) (nN (eg P) (nN (fw P) (nN (gS P) (nN (tT []) (lN (lm P)) .nil) (lN (ip P))) (nN (gw P) (lN (jN P)) (lN (ja P)))) (CU P)) (nN (dX P) (nN (fE P) (nN (iH P) (nN (zO) (lN (tT [])) .nil) (lN (kX P))) (nN (hZ P) (lN (ie P)) (lN (jO P)))) (DF P))))) (nN (boot_o_2 P) (nN (boot_o_4 P) (nN (boot_o_8 P) (nN (eN P) (Ex P) (nN (fV P) (nN (gE P) (nN (ij P) (lN (kt P)) .nil) (lN (kD P))) (nN (hX P) (lN (zO)) (lN (iX P))))) (nN (eM P) (nN (fj P) (nN (iK P) (nN (tT []) (lN (lj P)) .nil) (lN (iz P))) (nN (fz P) (lN (tT [])) (lN (zO)))) (Ek P))) (nN (⟨.none, none, (.fields ⟨[(.int (1) 0), (.int (0) 0), (.ref 20), (.int (5) 0), (.int (0) 0), (.ref 27), (.int (7) 0), (.int (0) 0), (.ref 40), (.int (9) 0), (.int (0) 0), (.ref 52), (.int (11) 0), (.int (0) 0), (.ref 64), (.int (13) 0), (.int (0) 0), (.ref 76), (.int (15) 0), (.int (0) 0), (.ref 88), (.int (17) 0), (.int (0) 0), (.ref 100), (.int (19) 0), (.int (0) 0), (.ref 112), (.int (27) 0), (.int (0) 0), (.ref 124), (.int (29) 0), (.int (0) 0), (.ref 131), (.int (35) 0), (.int (0) 0), (.ref 138), (.int (38) 0), (.int (0) 0), (.ref 145), (.int (41) 0), (.int (0) 0), (.ref 152), (.int (48) 0), (.int (0) 0), (.ref 159), (.int (69) 0), (.int (0) 0), (.ref 208), (.int (93) 0), (.int (0) 0), (.ref 250)]⟩), ⟨[]⟩⟩) (nN (ei P) (EG P) (DA P)) (nN (eJ P) (nN (eO P) (nN (iQ P) (nN (tT []) (lN (kP P)) .nil) (lN (kG P))) (nN (ik P) (lN (ju P)) (lN (ji P)))) (EW P)))) (nN (boot_o_6 P) (nN (boot_o_10 P) (nN (dU P) (Es P) (nN (fU P) (nN (iF P) (nN (gx P) (lN (zO)) .nil) (lN (tT []))) (nN (tT []) (lN (tT [])) (lN (jy P))))) (nN (eQ P) (nN (eR P) (nN (tT []) (nN (fZ P) (lN (tT [])) .nil) (lN (jx P))) (nN (gm P) (lN (iB P)) (lN (tT [])))) (EX P))) (nN (dN P) (nN (dY P) (nN (fG P) (nN (gM P) (nN (zO) (lN (tT [])) .nil) (lN (iu P))) (nN (tT []) (lN (iC P)) (lN (iV P)))) (En P)) (nN (eh P) (nN (fL P) (nN (gI P) (nN (gb P) (lN (md P)) .nil) (lN (tT []))) (nN (tT []) (lN (ia P)) (lN (jv P)))) (DT P)))))), 293, lf0, ⟨[]⟩, ⟨0, 0, 0, 0⟩, 572, os⟩ : Params → SharedT) w.params
noncomputable def Bs : List Stmt := ((behindTheImports pw).drop 25).take 4
noncomputable def Bu (w : World) : Prop := (fun os => segRunT treeTable pw w m0 ann 1 383 (S10 w os) (piecesOf Bs env cE ⟨69, 0, 92, 40⟩ B)) = fun os => some (Flow.next, S11 w os, cE, ⟨121, 0, 121, 11⟩)
theorem FF (w : World) : Bu w := by
  unfold Bu
  rw [PySem.W.Fast.te10110043849684766642, PySem.W.Fast.te14364793385576792824]
  kernel_rfl
noncomputable def mq (P : Params) : Obj := tT [(sV "thing" 575)]
noncomputable def pr (P : Params) : Obj := fO "is_step" "is_step" pw.main.body 29
noncomputable def me (P : Params) : Obj := cO "is_step" 572 "is_step" 573 574 122 1 3 293 true 181 294 .none (.ref 295) (.ref 296) (.ref 297) 576 122 577
noncomputable def ml (P : Params) : Obj := gO "is_step" "is_step" pw.main.body 29 (sV "ringpost.runs" 564) 298
noncomputable def mH (P : Params) : Obj := tT [(sV "thing" 582)]
noncomputable def pk (P : Params) : Obj := fO "need_step" "need_step" pw.main.body 30
noncomputable def lR (P : Params) : Obj := cO "need_step" 579 "need_step" 580 581 126 1 3 300 true 181 301 .none (.ref 302) (.ref 303) (.ref 304) 583 126 584
noncomputable def mF (P : Params) : Obj := gO "need_step" "need_step" pw.main.body 30 (sV "ringpost.runs" 564) 305
noncomputable def S12 (w : World) (os : OsState) : SharedT := (fun P => ⟨(nN (boot_o_0 P) (nN (boot_o_1 P) (nN (⟨(.type "dict"), none, (.dict ⟨[en P "__name__" 165 (sV "ringpost.runs" 564), en P "__doc__" 166 .none, en P "__package__" 167 .none, en P "__loader__" 168 (.builtin "__main__.__loader__#opaque"), en P "__spec__" 169 .none, en P "__annotations__" 170 (.ref 6), en P "__builtins__" 171 (.ref 4), en P "__file__" 173 (sV "/claim/cut.py" 172), en P "__cached__" 174 .none, en P "_wall" 193 (.ref 21), en P "PostError" 213 (.ref 31), en P "BadBounds" 229 (.ref 44), en P "BadRing" 245 (.ref 56), en P "BadTexts" 261 (.ref 68), en P "BadStep" 277 (.ref 80), en P "NotNow" 293 (.ref 92), en P "NoLetter" 309 (.ref 104), en P "NoLine" 325 (.ref 116), en P "MOST_WINDOW" 329 (.int (20) 328), en P "MOST_BACK" 331 (.int (20) 330), en P "MOST_RING" 333 (.int (200) 332), en P "MOST_TEXTS" 335 (.int (400) 334), en P "MOST_SIGNS" 337 (.int (40) 336), en P "is_among" 346 (.ref 125), en P "are_bounds" 353 (.ref 132), en P "need_bounds" 360 (.ref 139), en P "need_ring" 367 (.ref 146), en P "need_texts" 375 (.ref 153), en P "Post" 437 (.ref 198), en P "Sender" 499 (.ref 240), en P "Taker" 563 (.ref 287), en P "WORDS" 569 (.ref 292), en P "MOST_NUMBER" 571 (.int (999999) 570), en P "is_step" 578 (.ref 299), en P "need_step" 585 (.ref 306)]⟩ 35), ⟨[]⟩⟩) (nN (boot_o_7 P) (nN (ec P) (Dq P) (nN (fD P) (nN (gC P) (nN (tT []) (lN (kW P)) .nil) (lN (lg P))) (nN (zO) (nN (tT []) (lN (tT [])) .nil) (lN (iZ P))))) (nN (eK P) (nN (fq P) (nN (gQ P) (nN (gf P) (lN (mh P)) .nil) (lN (gY P))) (nN (fB P) (nN (gT P) (lN (mq P)) .nil) (lN (tT [])))) (Ef P))) (nN (dK P) (nN (eU P) (Dy P) (EM P)) (nN (eT P) (nN (eP P) (nN (zO) (nN (gy P) (lN (zO)) .nil) (lN (tT []))) (nN (tT [(.ref 31)]) (nN (tT []) (lN (ml P)) .nil) (lN (kz P)))) (Er P)))) (nN (boot_o_5 P) (nN (boot_o_9 P) (nN (em P) (DE P) (nN (fW P) (nN (iG P) (nN (gc P) (lN (tT [])) .nil) (lN (kO P))) (nN (hN P) (nN (ib P) (lN (lR P)) .nil) (lN (jj P))))) (nN (eV P) (nN (fy P) (nN (iP P) (nN (ir P) (lN (kQ P)) .nil) (lN (jF P))) (nN (gi P) (nN (zO) (lN (pr P)) .nil) (lN (jl P)))) (DS P))) (nN (dM P) (nN (eg P) (nN (fw P) (nN (gS P) (nN (tT []) (lN (lm P)) .nil) (lN (ip P))) (nN (gw P) (nN (jN P) (lN (tT [])) .nil) (lN (ja P)))) (CU P)) (nN (dX P) (nN (fE P) (nN (iH P) (nN (zO) (lN (tT [])) .nil) (lN (kX P))) (nN (hZ P) (nN (ie P) (lN (zO)) .nil) (lN (jO P)))) (DF P))))) (nN (boot_o_2 P) (nN (boot_o_4 P) (nN (boot_o_8 P) (nN (eN P) (Ex P) (nN (fV P) (nN (gE P) (nN (ij P) (lN (kt P)) .nil) (lN (kD P))) (nN (hX P) (nN (zO) (lN (pk P)) .nil) (lN (iX P))))) (nN (eM P) (nN (fj P) (nN (iK P) (nN (tT []) (lN (lj P)) .nil) (lN (iz P))) (nN (fz P) (nN (tT []) (lN (tT [])) .nil) (lN (zO)))) (Ek P))) (nN (⟨.none, none, (.fields ⟨[(.int (1) 0), (.int (0) 0), (.ref 20), (.int (5) 0), (.int (0) 0), (.ref 27), (.int (7) 0), (.int (0) 0), (.ref 40), (.int (9) 0), (.int (0) 0), (.ref 52), (.int (11) 0), (.int (0) 0), (.ref 64), (.int (13) 0), (.int (0) 0), (.ref 76), (.int (15) 0), (.int (0) 0), (.ref 88), (.int (17) 0), (.int (0) 0), (.ref 100), (.int (19) 0), (.int (0) 0), (.ref 112), (.int (27) 0), (.int (0) 0), (.ref 124), (.int (29) 0), (.int (0) 0), (.ref 131), (.int (35) 0), (.int (0) 0), (.ref 138), (.int (38) 0), (.int (0) 0), (.ref 145), (.int (41) 0), (.int (0) 0), (.ref 152), (.int (48) 0), (.int (0) 0), (.ref 159), (.int (69) 0), (.int (0) 0), (.ref 208), (.int (93) 0), (.int (0) 0), (.ref 250), (.int (122) 0), (.int (0) 0), (.ref 298), (.int (126) 0), (.int (0) 0), (.ref 305)]⟩), ⟨[]⟩⟩) (nN (ei P) (EG P) (DA P)) (nN (eJ P) (nN (eO P) (nN (iQ P) (nN (tT []) (lN (kP P)) .nil) (lN (kG P))) (nN (ik P) (nN (ju P) (lN (tT [])) .nil) (lN (ji P)))) (EW P)))) (nN (boot_o_6 P) (nN (boot_o_10 P) (nN (dU P) (Es P) (nN (fU P) (nN (iF P) (nN (gx P) (lN (zO)) .nil) (lN (tT []))) (nN (tT []) (nN (tT []) (lN (mF P)) .nil) (lN (jy P))))) (nN (eQ P) (nN (eR P) (nN (tT []) (nN (fZ P) (lN (tT [])) .nil) (lN (jx P))) (nN (gm P) (nN (iB P) (lN (me P)) .nil) (lN (tT [])))) (EX P))) (nN (dN P) (nN (dY P) (nN (fG P) (nN (gM P) (nN (zO) (lN (tT [])) .nil) (lN (iu P))) (nN (tT []) (nN (iC P) (lN (zO)) .nil) (lN (iV P)))) (En P)) (nN (eh P) (nN (fL P) (nN (gI P) (nN (gb P) (lN (md P)) .nil) (lN (tT []))) (nN (tT []) (nN (ia P) (lN (mH P)) .nil) (lN (jv P)))) (DT P)))))), 307, lf0, ⟨[]⟩, ⟨0, 0, 0, 0⟩, 586, os⟩ : Params → SharedT) w.params
noncomputable def AO : List Stmt := ((behindTheImports pw).drop 29).take 2
noncomputable def Bf (w : World) : Prop := (fun os => segRunT treeTable pw w m0 ann 1 59 (S11 w os) (piecesOf AO env cE ⟨121, 0, 121, 11⟩ B)) = fun os => some (Flow.next, S12 w os, cE, ⟨126, 0, 128, 54⟩)
theorem Fs (w : World) : Bf w := by
  unfold Bf
  rw [PySem.W.Fast.te10110043849684766642, PySem.W.Fast.te14364793385576792824]
  kernel_rfl
noncomputable def rk (P : Params) : Obj := ⟨(.type "builtin_function_or_method"), none, (.fields ⟨[(.builtin "type.__prepare__"), (.type "type")]⟩), ⟨[]⟩⟩
noncomputable def rX (P : Params) : Obj := ⟨(.type "dict"), none, (.dict ⟨[en P "__module__" 593 (sV "ringpost.runs" 564), en P "__qualname__" 595 (sV "Run" 594), en P "__firstlineno__" 597 (.int (129) 596), en P "__init__" 607 (.ref 320), en P "do" 617 (.ref 327), en P "out" 624 (.ref 334), en P "counts" 631 (.ref 341), en P "letters" 642 (.ref 348), en P "answers" 648 (.ref 353), en P "wrong" 655 (.ref 360), en P "copied" 662 (.ref 367), en P "__static_attributes__" 670 (.ref 368)]⟩ 12), ⟨[]⟩⟩
noncomputable def rj (P : Params) : Obj := ⟨.none, none, (.fields ⟨[(.int (131) 0), (.int (4) 0), (.ref 319), (.int (143) 0), (.int (4) 0), (.ref 326), (.int (154) 0), (.int (4) 0), (.ref 333), (.int (157) 0), (.int (4) 0), (.ref 340), (.int (160) 0), (.int (4) 0), (.ref 347), (.int (167) 0), (.int (4) 0), (.ref 352), (.int (170) 0), (.int (4) 0), (.ref 359), (.int (173) 0), (.int (4) 0), (.ref 366)]⟩), ⟨[]⟩⟩
noncomputable def rG (P : Params) : Obj := cO "Run" 588 "Run" 589 590 129 0 0 310 false 181 311 .none .none .none .none 591 129 592
noncomputable def uQ (P : Params) : Obj := ⟨(.type "frame"), none, .plain, ⟨[(some (.ref 312)), (some (.ref 3)), (some (.ref 309)), none, (some (sV "ringpost.runs" 564)), none, (some (.ref 0))]⟩⟩
noncomputable def pf (P : Params) : Obj := tT [(sV "self" 601), (sV "bounds" 602), (sV "ring" 603), (sV "texts" 604)]
noncomputable def qy (P : Params) : Obj := fO "__init__" "Run.__init__" (bx pw.main.body 31) 0
noncomputable def oF (P : Params) : Obj := cO "__init__" 598 "Run.__init__" 599 600 131 4 3 314 true 181 315 .none (.ref 316) (.ref 317) (.ref 318) 605 131 606
noncomputable def nG (P : Params) : Obj := gO "__init__" "Run.__init__" (bx pw.main.body 31) 0 (sV "ringpost.runs" 564) 319
noncomputable def oc (P : Params) : Obj := tT [(sV "self" 611), (sV "step" 612), (sV "bears" 613), (sV "text" 614)]
noncomputable def rz (P : Params) : Obj := fO "do" "Run.do" (bx pw.main.body 31) 1
noncomputable def oO (P : Params) : Obj := cO "do" 608 "Run.do" 609 610 143 2 3 321 true 181 322 .none (.ref 323) (.ref 324) (.ref 325) 615 143 616
noncomputable def oz (P : Params) : Obj := gO "do" "Run.do" (bx pw.main.body 31) 1 (sV "ringpost.runs" 564) 326
noncomputable def qZ (P : Params) : Obj := fO "out" "Run.out" (bx pw.main.body 31) 2
noncomputable def oh (P : Params) : Obj := cO "out" 618 "Run.out" 619 620 154 1 3 328 true 181 329 .none (.ref 330) (.ref 331) (.ref 332) 622 154 623
noncomputable def pq (P : Params) : Obj := gO "out" "Run.out" (bx pw.main.body 31) 2 (sV "ringpost.runs" 564) 333
noncomputable def qu (P : Params) : Obj := fO "counts" "Run.counts" (bx pw.main.body 31) 3
noncomputable def nS (P : Params) : Obj := cO "counts" 625 "Run.counts" 626 627 157 1 3 335 true 181 336 .none (.ref 337) (.ref 338) (.ref 339) 629 157 630
noncomputable def po (P : Params) : Obj := gO "counts" "Run.counts" (bx pw.main.body 31) 3 (sV "ringpost.runs" 564) 340
noncomputable def pi (P : Params) : Obj := tT [(sV "self" 635), (sV "found" 636), (sV "number" 637), (sV "bears" 638), (sV "text" 639)]
noncomputable def rC (P : Params) : Obj := fO "letters" "Run.letters" (bx pw.main.body 31) 4
noncomputable def oX (P : Params) : Obj := cO "letters" 632 "Run.letters" 633 634 160 1 3 342 true 181 343 .none (.ref 344) (.ref 345) (.ref 346) 640 160 641
noncomputable def nM (P : Params) : Obj := gO "letters" "Run.letters" (bx pw.main.body 31) 4 (sV "ringpost.runs" 564) 347
noncomputable def rO (P : Params) : Obj := fO "answers" "Run.answers" (bx pw.main.body 31) 5
noncomputable def oy (P : Params) : Obj := cO "answers" 643 "Run.answers" 644 645 167 1 3 349 true 181 350 .none .none .none (.ref 351) 646 167 647
noncomputable def oV (P : Params) : Obj := gO "answers" "Run.answers" (bx pw.main.body 31) 5 (sV "ringpost.runs" 564) 352
noncomputable def qO (P : Params) : Obj := fO "wrong" "Run.wrong" (bx pw.main.body 31) 6
noncomputable def nR (P : Params) : Obj := cO "wrong" 649 "Run.wrong" 650 651 170 1 3 354 true 181 355 .none (.ref 356) (.ref 357) (.ref 358) 653 170 654
noncomputable def oW (P : Params) : Obj := gO "wrong" "Run.wrong" (bx pw.main.body 31) 6 (sV "ringpost.runs" 564) 359
noncomputable def qG (P : Params) : Obj := fO "copied" "Run.copied" (bx pw.main.body 31) 7
noncomputable def nW (P : Params) : Obj := cO "copied" 656 "Run.copied" 657 658 173 1 3 361 true 181 362 .none (.ref 363) (.ref 364) (.ref 365) 660 173 661
noncomputable def og (P : Params) : Obj := gO "copied" "Run.copied" (bx pw.main.body 31) 7 (sV "ringpost.runs" 564) 366
noncomputable def pe (P : Params) : Obj := tT [(sV "back" 663), (sV "bounds" 664), (sV "forth" 665), (sV "ring" 666), (sV "sender" 667), (sV "taker" 668), (sV "texts" 669)]
noncomputable def pv (P : Params) : Obj := ⟨(.type "dict"), none, (.dict ⟨[en P "__module__" 593 (sV "ringpost.runs" 564), en P "__firstlineno__" 597 (.int (129) 596), en P "__init__" 607 (.ref 320), en P "do" 617 (.ref 327), en P "out" 624 (.ref 334), en P "counts" 631 (.ref 341), en P "letters" 642 (.ref 348), en P "answers" 648 (.ref 353), en P "wrong" 655 (.ref 360), en P "copied" 662 (.ref 367), en P "__static_attributes__" 670 (.ref 368), en P "__dict__" 672 (.ref 371), en P "__weakref__" 674 (.ref 372), en P "__doc__" 675 .none]⟩ 4), ⟨[]⟩⟩
noncomputable def ph (P : Params) : Obj := ⟨(.type "type"), none, (.cls { name := (sS "Run"), bases := [(.type "object")], mro := [(.ref 370), (.type "object")], ns := 369, qualname := (sS "Run"), hasDict := true, slotNames := [], subclasses := [], abstract := false, collection := none, hasDel := false }), ⟨[none, none, (some (sV "Run" 586)), (some (sV "Run" 594)), (some (.builtin "object.__new__")), (some (.bool true))]⟩⟩
noncomputable def pj (P : Params) : Obj := ⟨(.type "getset_descriptor"), none, (.fields ⟨[(sV "__dict__" 671), (.ref 370), (.builtin "function.__dict__"), (.builtin "function.__dict__#set")]⟩), ⟨[]⟩⟩
noncomputable def nH (P : Params) : Obj := ⟨(.type "getset_descriptor"), none, (.fields ⟨[(sV "__weakref__" 673), (.ref 370), (.builtin "ExceptionGroup.__weakref__"), .none]⟩), ⟨[]⟩⟩
noncomputable def qQ (P : Params) : Obj := ⟨(.type "super"), none, (.fields ⟨[(.ref 370), (.ref 370), (.ref 370)]⟩), ⟨[]⟩⟩
noncomputable def qS (P : Params) : Obj := ⟨(.type "builtin_function_or_method"), none, (.fields ⟨[(.builtin "object.__init_subclass__"), (.ref 370)]⟩), ⟨[]⟩⟩
noncomputable def S13 (w : World) (os : OsState) : SharedT := (fun P => ⟨(nN (boot_o_0 P) (nN (boot_o_1 P) (nN (⟨(.type "dict"), none, (.dict ⟨[en P "__name__" 165 (sV "ringpost.runs" 564), en P "__doc__" 166 .none, en P "__package__" 167 .none, en P "__loader__" 168 (.builtin "__main__.__loader__#opaque"), en P "__spec__" 169 .none, en P "__annotations__" 170 (.ref 6), en P "__builtins__" 171 (.ref 4), en P "__file__" 173 (sV "/claim/cut.py" 172), en P "__cached__" 174 .none, en P "_wall" 193 (.ref 21), en P "PostError" 213 (.ref 31), en P "BadBounds" 229 (.ref 44), en P "BadRing" 245 (.ref 56), en P "BadTexts" 261 (.ref 68), en P "BadStep" 277 (.ref 80), en P "NotNow" 293 (.ref 92), en P "NoLetter" 309 (.ref 104), en P "NoLine" 325 (.ref 116), en P "MOST_WINDOW" 329 (.int (20) 328), en P "MOST_BACK" 331 (.int (20) 330), en P "MOST_RING" 333 (.int (200) 332), en P "MOST_TEXTS" 335 (.int (400) 334), en P "MOST_SIGNS" 337 (.int (40) 336), en P "is_among" 346 (.ref 125), en P "are_bounds" 353 (.ref 132), en P "need_bounds" 360 (.ref 139), en P "need_ring" 367 (.ref 146), en P "need_texts" 375 (.ref 153), en P "Post" 437 (.ref 198), en P "Sender" 499 (.ref 240), en P "Taker" 563 (.ref 287), en P "WORDS" 569 (.ref 292), en P "MOST_NUMBER" 571 (.int (999999) 570), en P "is_step" 578 (.ref 299), en P "need_step" 585 (.ref 306), en P "Run" 677 (.ref 370)]⟩ 36), ⟨[]⟩⟩) (nN (boot_o_7 P) (nN (ec P) (nN (lx P) (nN (zO) (nN (zO) (lN (tT [])) .nil) (nN (jh P) (lN (oF P)) .nil)) (nN (kb P) (nN (kY P) (lN (mE P)) .nil) (nN (kB P) (lN (rO P)) .nil))) (nN (fD P) (nN (gC P) (nN (tT []) (lN (kW P)) .nil) (nN (lg P) (lN (tT [])) .nil)) (nN (zO) (nN (tT []) (lN (tT [])) .nil) (nN (iZ P) (lN (og P)) .nil)))) (nN (eK P) (nN (fq P) (nN (gQ P) (nN (gf P) (lN (mh P)) .nil) (nN (gY P) (lN (oz P)) .nil)) (nN (fB P) (nN (gT P) (lN (mq P)) .nil) (nN (tT []) (lN (nR P)) .nil))) (nN (fS P) (nN (zO) (nN (lk P) (lN (ma P)) .nil) (nN (kR P) (lN (zO)) .nil)) (nN (tT []) (nN (zO) (lN (rj P)) .nil) (lN (nJ P)))))) (nN (dK P) (nN (eU P) (nN (fA P) (nN (gR P) (nN (iy P) (lN (tT [])) .nil) (nN (jq P) (lN (oc P)) .nil)) (nN (zO) (nN (jm P) (lN (oR P)) .nil) (nN (tT []) (lN (zO)) .nil))) (nN (gL P) (nN (jD P) (nN (tT []) (lN (mD P)) .nil) (nN (zO) (lN (qu P)) .nil)) (nN (iD P) (nN (lr P) (lN (tT [])) .nil) (nN (mI P) (lN (pj P)) .nil)))) (nN (eT P) (nN (eP P) (nN (zO) (nN (gy P) (lN (zO)) .nil) (nN (tT []) (lN (tT [])) .nil)) (nN (tT [(.ref 31)]) (nN (tT []) (lN (ml P)) .nil) (nN (kz P) (lN (tT [(sV "self" 659)])) .nil))) (nN (gP P) (nN (iY P) (nN (kS P) (lN (mO P)) .nil) (nN (ku P) (lN (oX P)) .nil)) (nN (jp P) (nN (jB P) (lN (zO)) .nil) (lN (oJ P))))))) (nN (boot_o_5 P) (nN (boot_o_9 P) (nN (em P) (nN (fC P) (nN (iL P) (nN (tT []) (lN (mK P)) .nil) (nN (lq P) (lN (tT [])) .nil)) (nN (lH P) (nN (tT []) (lN (mz P)) .nil) (nN (zO) (lN (oV P)) .nil))) (nN (fW P) (nN (iG P) (nN (gc P) (lN (tT [])) .nil) (nN (kO P) (lN (tT [(sV "self" 628)])) .nil)) (nN (hN P) (nN (ib P) (lN (lR P)) .nil) (nN (jj P) (lN (pv P)) .nil)))) (nN (eV P) (nN (fy P) (nN (iP P) (nN (ir P) (lN (kQ P)) .nil) (nN (jF P) (lN (zO)) .nil)) (nN (gi P) (nN (zO) (lN (pr P)) .nil) (nN (jl P) (lN (tT [])) .nil))) (nN (gB P) (nN (jW P) (nN (jw P) (lN (zO)) .nil) (nN (tT []) (lN (tT [])) .nil)) (nN (je P) (nN (tT []) (lN (uQ P)) .nil) (lN (rI P)))))) (nN (dM P) (nN (eg P) (nN (fw P) (nN (gS P) (nN (tT []) (lN (lm P)) .nil) (nN (ip P) (lN (rz P)) .nil)) (nN (gw P) (nN (jN P) (lN (tT [])) .nil) (nN (ja P) (lN (tT [])) .nil))) (nN (gN P) (nN (jV P) (nN (iW P) (lN (oE P)) .nil) (nN (tT []) (lN (po P)) .nil)) (nN (jd P) (nN (jb P) (lN (rX P)) .nil) (nN (tT []) (lN (qQ P)) .nil)))) (nN (dX P) (nN (fE P) (nN (iH P) (nN (zO) (lN (tT [])) .nil) (nN (kX P) (lN (oh P)) .nil)) (nN (hZ P) (nN (ie P) (lN (zO)) .nil) (nN (jO P) (lN (qG P)) .nil))) (nN (iS P) (nN (jZ P) (nN (tT []) (lN (lX P)) .nil) (nN (lY P) (lN (tT [])) .nil)) (nN (iE P) (nN (tT []) (lN (tT [])) .nil) (lN (zO)))))))) (nN (boot_o_2 P) (nN (boot_o_4 P) (nN (boot_o_8 P) (nN (eN P) (nN (eW P) (nN (iJ P) (nN (hJ P) (lN (nY P)) .nil) (nN (tT []) (lN (nG P)) .nil)) (nN (lP P) (nN (kj P) (lN (lT P)) .nil) (nN (tT []) (lN (oy P)) .nil))) (nN (fV P) (nN (gE P) (nN (ij P) (lN (kt P)) .nil) (nN (kD P) (lN (zO)) .nil)) (nN (hX P) (nN (zO) (lN (pk P)) .nil) (nN (iX P) (lN (pe P)) .nil)))) (nN (eM P) (nN (fj P) (nN (iK P) (nN (tT []) (lN (lj P)) .nil) (nN (iz P) (lN (tT [])) .nil)) (nN (fz P) (nN (tT []) (lN (tT [])) .nil) (nN (zO) (lN (oW P)) .nil))) (nN (fR P) (nN (jU P) (nN (jH P) (lN (tT [])) .nil) (nN (lp P) (lN (pi P)) .nil)) (nN (zO) (nN (jC P) (lN (rG P)) .nil) (lN (tT [])))))) (nN (⟨.none, none, (.fields ⟨[(.int (1) 0), (.int (0) 0), (.ref 20), (.int (5) 0), (.int (0) 0), (.ref 27), (.int (7) 0), (.int (0) 0), (.ref 40), (.int (9) 0), (.int (0) 0), (.ref 52), (.int (11) 0), (.int (0) 0), (.ref 64), (.int (13) 0), (.int (0) 0), (.ref 76), (.int (15) 0), (.int (0) 0), (.ref 88), (.int (17) 0), (.int (0) 0), (.ref 100), (.int (19) 0), (.int (0) 0), (.ref 112), (.int (27) 0), (.int (0) 0), (.ref 124), (.int (29) 0), (.int (0) 0), (.ref 131), (.int (35) 0), (.int (0) 0), (.ref 138), (.int (38) 0), (.int (0) 0), (.ref 145), (.int (41) 0), (.int (0) 0), (.ref 152), (.int (48) 0), (.int (0) 0), (.ref 159), (.int (69) 0), (.int (0) 0), (.ref 208), (.int (93) 0), (.int (0) 0), (.ref 250), (.int (122) 0), (.int (0) 0), (.ref 298), (.int (126) 0), (.int (0) 0), (.ref 305), (.int (129) 0), (.int (0) 0), (.ref 312)]⟩), ⟨[]⟩⟩) (nN (ei P) (nN (fT P) (nN (gG P) (nN (hU P) (lN (zO)) .nil) (nN (jc P) (lN (tT [])) .nil)) (nN (ig P) (nN (tT []) (lN (mj P)) .nil) (nN (mP P) (lN (tT [(sV "self" 652)])) .nil))) (nN (gJ P) (nN (kc P) (nN (zO) (lN (tT [])) .nil) (nN (ls P) (lN (nS P)) .nil)) (nN (gV P) (nN (jf P) (lN (rk P)) .nil) (nN (mu P) (lN (nH P)) .nil)))) (nN (eJ P) (nN (eO P) (nN (iQ P) (nN (tT []) (lN (kP P)) .nil) (nN (kG P) (lN (qZ P)) .nil)) (nN (ik P) (nN (ju P) (lN (tT [])) .nil) (nN (ji P) (lN (tT [])) .nil))) (nN (iI P) (nN (jE P) (nN (kL P) (lN (mB P)) .nil) (nN (tT []) (lN (nM P)) .nil)) (nN (ic P) (nN (jG P) (lN (pf P)) .nil) (lN (tT []))))))) (nN (boot_o_6 P) (nN (boot_o_10 P) (nN (dU P) (nN (fI P) (nN (gz P) (nN (jo P) (lN (lS P)) .nil) (nN (js P) (lN (zO)) .nil)) (nN (tT []) (nN (zO) (lN (oU P)) .nil) (nN (kT P) (lN (tT [])) .nil))) (nN (fU P) (nN (iF P) (nN (gx P) (lN (zO)) .nil) (nN (tT []) (lN (tT [])) .nil)) (nN (tT []) (nN (tT []) (lN (mF P)) .nil) (nN (jy P) (lN (ph P)) .nil)))) (nN (eQ P) (nN (eR P) (nN (tT []) (nN (fZ P) (lN (tT [])) .nil) (nN (jx P) (lN (tT [(sV "self" 621)])) .nil)) (nN (gm P) (nN (iB P) (lN (me P)) .nil) (nN (tT []) (lN (zO)) .nil))) (nN (gH P) (nN (tT []) (nN (tT []) (lN (oM P)) .nil) (nN (zO) (lN (rC P)) .nil)) (nN (tT []) (nN (kJ P) (lN (tT [])) .nil) (lN (oZ P)))))) (nN (dN P) (nN (dY P) (nN (fG P) (nN (gM P) (nN (zO) (lN (tT [])) .nil) (nN (iu P) (lN (oO P)) .nil)) (nN (tT []) (nN (iC P) (lN (zO)) .nil) (nN (iV P) (lN (qO P)) .nil))) (nN (fX P) (nN (tT []) (nN (tT []) (lN (lU P)) .nil) (nN (mQ P) (lN (tT [])) .nil)) (nN (iT P) (nN (tT []) (lN (tT [])) .nil) (nN (oL P) (lN (qS P)) .nil)))) (nN (eh P) (nN (fL P) (nN (gI P) (nN (gb P) (lN (md P)) .nil) (nN (tT []) (lN (pq P)) .nil)) (nN (tT []) (nN (ia P) (lN (mH P)) .nil) (nN (jv P) (lN (nW P)) .nil))) (nN (tT []) (nN (jY P) (nN (lf P) (lN (mw P)) .nil) (nN (kK P) (lN (zO)) .nil)) (nN (tT []) (nN (zO) (lN (qy P)) .nil) (lN (mr P))))))))), 375, lf0, ⟨[]⟩, ⟨0, 0, 0, 0⟩, 678, os⟩ : Params → SharedT) w.params
noncomputable def Be : List Stmt := ((behindTheImports pw).drop 31).take 1
noncomputable def Bg (w : World) : Prop := (fun os => segRunT treeTable pw w m0 ann 1 452 (S12 w os) (piecesOf Be env cE ⟨126, 0, 128, 54⟩ B)) = fun os => some (Flow.next, S13 w os, cE, ⟨129, 0, 174, 16⟩)
theorem Fi (w : World) : Bg w := by
  unfold Bg
  rw [PySem.W.Fast.te10110043849684766642, PySem.W.Fast.te14364793385576792824]
  kernel_rfl
noncomputable def rM (P : Params) : Obj := ⟨(.type "dict"), none, (.dict ⟨[en P "send" 682 (sV "letter" 683), en P "hand" 684 (sV "answer" 685), en P "tell" 686 (sV "base" 687)]⟩ 3), ⟨[]⟩⟩
noncomputable def rQ (P : Params) : Obj := tT [(sV "word" 697), (sV "sign" 698)]
noncomputable def uh (P : Params) : Obj := fO "number_of" "number_of" pw.main.body 36
noncomputable def rK (P : Params) : Obj := cO "number_of" 694 "number_of" 695 696 179 1 3 376 true 181 377 .none (.ref 378) (.ref 379) (.ref 380) 699 179 700
noncomputable def qx (P : Params) : Obj := gO "number_of" "number_of" pw.main.body 36 (sV "ringpost.notes" 678) 381
noncomputable def rt (P : Params) : Obj := tT [(sV "line" 705), (sV "word" 706), (sV "blank" 707), (sV "rest" 708), (sV "step" 709)]
noncomputable def rN (P : Params) : Obj := cO "read" 702 "read" 703 704 186 1 3 383 true 181 384 .none (.ref 385) (.ref 386) (.ref 387) 710 186 711
noncomputable def rF (P : Params) : Obj := gO "read" "read" pw.main.body 37 (sV "ringpost.notes" 678) 388
noncomputable def rR (P : Params) : Obj := tT [(sV "run" 716), (sV "line" 717), (sV "step" 718), (sV "number" 719)]
noncomputable def uf (P : Params) : Obj := fO "answered" "answered" pw.main.body 38
noncomputable def rT (P : Params) : Obj := cO "answered" 713 "answered" 714 715 196 2 3 390 true 181 391 .none (.ref 392) (.ref 393) (.ref 394) 720 196 721
noncomputable def rx (P : Params) : Obj := gO "answered" "answered" pw.main.body 38 (sV "ringpost.notes" 678) 395
noncomputable def uS (P : Params) : Obj := fO "played" "played" pw.main.body 39
noncomputable def qT (P : Params) : Obj := cO "played" 723 "played" 724 725 207 4 3 397 true 181 398 .none .none .none (.ref 399) 726 207 727
noncomputable def qF (P : Params) : Obj := gO "played" "played" pw.main.body 39 (sV "ringpost.notes" 678) 400
noncomputable def qJ (P : Params) : Obj := tT [(sV "_law_script" 734), (sV "_law_k" 735)]
noncomputable def uD (P : Params) : Obj := fO "_law_at" "_law_at" pw.main.body 41
noncomputable def ro (P : Params) : Obj := cO "_law_at" 731 "_law_at" 732 733 211 2 3 402 true 181 403 .none (.ref 404) (.ref 405) (.ref 406) 736 211 737
noncomputable def qX (P : Params) : Obj := gO "_law_at" "_law_at" pw.main.body 41 (sV "law_uf020020_13" 729) 407
noncomputable def qV (P : Params) : Obj := tT [(sV "_law_cell" 742), (sV "_law_k" 743)]
noncomputable def tI (P : Params) : Obj := fO "_law_mixed" "_law_mixed" pw.main.body 42
noncomputable def qv (P : Params) : Obj := cO "_law_mixed" 739 "_law_mixed" 740 741 215 2 3 409 true 181 410 .none (.ref 411) (.ref 412) (.ref 413) 744 215 745
noncomputable def rD (P : Params) : Obj := gO "_law_mixed" "_law_mixed" pw.main.body 42 (sV "law_uf020020_13" 729) 414
noncomputable def uI (P : Params) : Obj := fO "_law_whole" "_law_whole" pw.main.body 43
noncomputable def tw (P : Params) : Obj := cO "_law_whole" 747 "_law_whole" 748 749 217 1 3 416 true 181 417 .none (.ref 418) (.ref 419) (.ref 420) 751 217 752
noncomputable def tE (P : Params) : Obj := gO "_law_whole" "_law_whole" pw.main.body 43 (sV "law_uf020020_13" 729) 421
noncomputable def qW (P : Params) : Obj := tT [(sV "_law_script" 757), (sV "_law_one" 758), (sV "_law_two" 759), (sV "_law_window" 760), (sV "_law_delay" 761), (sV "_law_back" 762)]
noncomputable def tV (P : Params) : Obj := fO "_law_bounds" "_law_bounds" pw.main.body 44
noncomputable def rh (P : Params) : Obj := cO "_law_bounds" 754 "_law_bounds" 755 756 219 1 3 423 true 181 424 .none (.ref 425) (.ref 426) (.ref 427) 763 219 764
noncomputable def rm (P : Params) : Obj := gO "_law_bounds" "_law_bounds" pw.main.body 44 (sV "law_uf020020_13" 729) 428
noncomputable def uy (P : Params) : Obj := fO "_law_texts" "_law_texts" pw.main.body 45
noncomputable def qM (P : Params) : Obj := cO "_law_texts" 766 "_law_texts" 767 768 234 3 3 430 true 181 431 .none .none .none (.ref 432) 769 234 770
noncomputable def qw (P : Params) : Obj := gO "_law_texts" "_law_texts" pw.main.body 45 (sV "law_uf020020_13" 729) 433
noncomputable def rH (P : Params) : Obj := tT [(sV "_law_bounds_here" 775), (sV "_law_ring" 776), (sV "_law_texts_here" 777), (sV "_law_m" 778)]
noncomputable def tN (P : Params) : Obj := fO "_law_begun" "_law_begun" pw.main.body 46
noncomputable def rq (P : Params) : Obj := cO "_law_begun" 772 "_law_begun" 773 774 243 3 3 435 true 181 436 .none (.ref 437) (.ref 438) (.ref 439) 779 243 780
noncomputable def uB (P : Params) : Obj := gO "_law_begun" "_law_begun" pw.main.body 46 (sV "law_uf020020_13" 729) 440
noncomputable def EA (P : Params) : BT := (nN (je P) (nN (tT []) (lN (uQ P)) (lN (uB P))) (nN (rI P) (lN (zO)) .nil))
noncomputable def S14 (w : World) (os : OsState) : SharedT := (fun P => ⟨(nN (boot_o_0 P) (nN (boot_o_1 P) (nN (⟨(.type "dict"), none, (.dict ⟨[en P "__name__" 165 (sV "law_uf020020_13" 729), en P "__doc__" 166 .none, en P "__package__" 167 .none, en P "__loader__" 168 (.builtin "__main__.__loader__#opaque"), en P "__spec__" 169 .none, en P "__annotations__" 170 (.ref 6), en P "__builtins__" 171 (.ref 4), en P "__file__" 173 (sV "/claim/cut.py" 172), en P "__cached__" 174 .none, en P "_wall" 193 (.ref 21), en P "PostError" 213 (.ref 31), en P "BadBounds" 229 (.ref 44), en P "BadRing" 245 (.ref 56), en P "BadTexts" 261 (.ref 68), en P "BadStep" 277 (.ref 80), en P "NotNow" 293 (.ref 92), en P "NoLetter" 309 (.ref 104), en P "NoLine" 325 (.ref 116), en P "MOST_WINDOW" 329 (.int (20) 328), en P "MOST_BACK" 331 (.int (20) 330), en P "MOST_RING" 333 (.int (200) 332), en P "MOST_TEXTS" 335 (.int (400) 334), en P "MOST_SIGNS" 337 (.int (40) 336), en P "is_among" 346 (.ref 125), en P "are_bounds" 353 (.ref 132), en P "need_bounds" 360 (.ref 139), en P "need_ring" 367 (.ref 146), en P "need_texts" 375 (.ref 153), en P "Post" 437 (.ref 198), en P "Sender" 499 (.ref 240), en P "Taker" 563 (.ref 287), en P "WORDS" 569 (.ref 292), en P "MOST_NUMBER" 571 (.int (999999) 570), en P "is_step" 578 (.ref 299), en P "need_step" 585 (.ref 306), en P "Run" 677 (.ref 370), en P "FIGURES" 681 (sV "0123456789" 680), en P "ANSWERS" 691 (.ref 375), en P "MOST_FIGURES" 693 (.int (6) 692), en P "number_of" 701 (.ref 382), en P "read" 712 (.ref 389), en P "answered" 722 (.ref 396), en P "played" 728 (.ref 401), en P "_law_at" 738 (.ref 408), en P "_law_mixed" 746 (.ref 415), en P "_law_whole" 753 (.ref 422), en P "_law_bounds" 765 (.ref 429), en P "_law_texts" 771 (.ref 434), en P "_law_begun" 781 (.ref 441)]⟩ 49), ⟨[]⟩⟩) (nN (boot_o_7 P) (nN (ec P) (nN (lx P) (nN (zO) (nN (zO) (lN (tT [])) (lN (tT []))) (nN (jh P) (lN (oF P)) .nil)) (nN (kb P) (nN (kY P) (lN (mE P)) (lN (rD P))) (nN (kB P) (lN (rO P)) .nil))) (nN (fD P) (nN (gC P) (nN (tT []) (lN (kW P)) (lN (uS P))) (nN (lg P) (lN (tT [])) .nil)) (nN (zO) (nN (tT []) (lN (tT [])) (lN (zO))) (nN (iZ P) (lN (og P)) .nil)))) (nN (eK P) (nN (fq P) (nN (gQ P) (nN (gf P) (lN (mh P)) (lN (zO))) (nN (gY P) (lN (oz P)) .nil)) (nN (fB P) (nN (gT P) (lN (mq P)) (lN (tT []))) (nN (tT []) (lN (nR P)) .nil))) (nN (fS P) (nN (zO) (nN (lk P) (lN (ma P)) (lN (ro P))) (nN (kR P) (lN (zO)) .nil)) (nN (tT []) (nN (zO) (lN (rj P)) (lN (tN P))) (nN (nJ P) (lN (rM P)) .nil))))) (nN (dK P) (nN (eU P) (nN (fA P) (nN (gR P) (nN (iy P) (lN (tT [])) (lN (fO "read" "read" pw.main.body 37))) (nN (jq P) (lN (oc P)) .nil)) (nN (zO) (nN (jm P) (lN (oR P)) (lN (tT []))) (nN (tT []) (lN (zO)) .nil))) (nN (gL P) (nN (jD P) (nN (tT []) (lN (mD P)) (lN (zO))) (nN (zO) (lN (qu P)) .nil)) (nN (iD P) (nN (lr P) (lN (tT [])) (lN (tT []))) (nN (mI P) (lN (pj P)) .nil)))) (nN (eT P) (nN (eP P) (nN (zO) (nN (gy P) (lN (zO)) (lN (rT P))) (nN (tT []) (lN (tT [])) .nil)) (nN (tT [(.ref 31)]) (nN (tT []) (lN (ml P)) (lN (tV P))) (nN (kz P) (lN (tT [(sV "self" 659)])) .nil))) (nN (gP P) (nN (iY P) (nN (kS P) (lN (mO P)) (lN (qV P))) (nN (ku P) (lN (oX P)) .nil)) (nN (jp P) (nN (jB P) (lN (zO)) .nil) (nN (oJ P) (lN (tT [])) .nil)))))) (nN (boot_o_5 P) (nN (boot_o_9 P) (nN (em P) (nN (fC P) (nN (iL P) (nN (tT []) (lN (mK P)) (lN (rt P))) (nN (lq P) (lN (tT [])) .nil)) (nN (lH P) (nN (tT []) (lN (mz P)) (lN (zO))) (nN (zO) (lN (oV P)) .nil))) (nN (fW P) (nN (iG P) (nN (gc P) (lN (tT [])) (lN (qF P))) (nN (kO P) (lN (tT [(sV "self" 628)])) .nil)) (nN (hN P) (nN (ib P) (lN (lR P)) (lN (qM P))) (nN (jj P) (lN (pv P)) .nil)))) (nN (eV P) (nN (fy P) (nN (iP P) (nN (ir P) (lN (kQ P)) (lN (tT []))) (nN (jF P) (lN (zO)) .nil)) (nN (gi P) (nN (zO) (lN (pr P)) (lN (qW P))) (nN (jl P) (lN (tT [])) .nil))) (nN (gB P) (nN (jW P) (nN (jw P) (lN (zO)) (lN (tT []))) (nN (tT []) (lN (tT [])) .nil)) (EA P)))) (nN (dM P) (nN (eg P) (nN (fw P) (nN (gS P) (nN (tT []) (lN (lm P)) (lN (rF P))) (nN (ip P) (lN (rz P)) .nil)) (nN (gw P) (nN (jN P) (lN (tT [])) (lN (tw P))) (nN (ja P) (lN (tT [])) .nil))) (nN (gN P) (nN (jV P) (nN (iW P) (lN (oE P)) (lN (tT []))) (nN (tT []) (lN (po P)) .nil)) (nN (jd P) (nN (jb P) (lN (rX P)) (lN (rH P))) (nN (tT []) (lN (qQ P)) .nil)))) (nN (dX P) (nN (fE P) (nN (iH P) (nN (zO) (lN (tT [])) (lN (tT []))) (nN (kX P) (lN (oh P)) .nil)) (nN (hZ P) (nN (ie P) (lN (zO)) (lN (rm P))) (nN (jO P) (lN (qG P)) .nil))) (nN (iS P) (nN (jZ P) (nN (tT []) (lN (lX P)) (lN (tI P))) (nN (lY P) (lN (tT [])) .nil)) (nN (iE P) (nN (tT []) (lN (tT [])) .nil) (nN (zO) (lN (rK P)) .nil))))))) (nN (boot_o_2 P) (nN (boot_o_4 P) (nN (boot_o_8 P) (nN (eN P) (nN (eW P) (nN (iJ P) (nN (hJ P) (lN (nY P)) (lN (zO))) (nN (tT []) (lN (nG P)) .nil)) (nN (lP P) (nN (kj P) (lN (lT P)) (lN (tT []))) (nN (tT []) (lN (oy P)) .nil))) (nN (fV P) (nN (gE P) (nN (ij P) (lN (kt P)) (lN (qT P))) (nN (kD P) (lN (zO)) .nil)) (nN (hX P) (nN (zO) (lN (pk P)) (lN (uy P))) (nN (iX P) (lN (pe P)) .nil)))) (nN (eM P) (nN (fj P) (nN (iK P) (nN (tT []) (lN (lj P)) (lN (rR P))) (nN (iz P) (lN (tT [])) .nil)) (nN (fz P) (nN (tT []) (lN (tT [])) (lN (zO))) (nN (zO) (lN (oW P)) .nil))) (nN (fR P) (nN (jU P) (nN (jH P) (lN (tT [])) (lN (qX P))) (nN (lp P) (lN (pi P)) .nil)) (nN (zO) (nN (jC P) (lN (rG P)) (lN (rq P))) (nN (tT []) (lN (tT [])) .nil))))) (nN (⟨.none, none, (.fields ⟨[(.int (1) 0), (.int (0) 0), (.ref 20), (.int (5) 0), (.int (0) 0), (.ref 27), (.int (7) 0), (.int (0) 0), (.ref 40), (.int (9) 0), (.int (0) 0), (.ref 52), (.int (11) 0), (.int (0) 0), (.ref 64), (.int (13) 0), (.int (0) 0), (.ref 76), (.int (15) 0), (.int (0) 0), (.ref 88), (.int (17) 0), (.int (0) 0), (.ref 100), (.int (19) 0), (.int (0) 0), (.ref 112), (.int (27) 0), (.int (0) 0), (.ref 124), (.int (29) 0), (.int (0) 0), (.ref 131), (.int (35) 0), (.int (0) 0), (.ref 138), (.int (38) 0), (.int (0) 0), (.ref 145), (.int (41) 0), (.int (0) 0), (.ref 152), (.int (48) 0), (.int (0) 0), (.ref 159), (.int (69) 0), (.int (0) 0), (.ref 208), (.int (93) 0), (.int (0) 0), (.ref 250), (.int (122) 0), (.int (0) 0), (.ref 298), (.int (126) 0), (.int (0) 0), (.ref 305), (.int (129) 0), (.int (0) 0), (.ref 312), (.int (179) 0), (.int (0) 0), (.ref 381), (.int (186) 0), (.int (0) 0), (.ref 388), (.int (196) 0), (.int (0) 0), (.ref 395), (.int (207) 0), (.int (0) 0), (.ref 400), (.int (211) 0), (.int (0) 0), (.ref 407), (.int (215) 0), (.int (0) 0), (.ref 414), (.int (217) 0), (.int (0) 0), (.ref 421), (.int (219) 0), (.int (0) 0), (.ref 428), (.int (234) 0), (.int (0) 0), (.ref 433), (.int (243) 0), (.int (0) 0), (.ref 440)]⟩), ⟨[]⟩⟩) (nN (ei P) (nN (fT P) (nN (gG P) (nN (hU P) (lN (zO)) (lN (rN P))) (nN (jc P) (lN (tT [])) .nil)) (nN (ig P) (nN (tT []) (lN (mj P)) (lN (uI P))) (nN (mP P) (lN (tT [(sV "self" 652)])) .nil))) (nN (gJ P) (nN (kc P) (nN (zO) (lN (tT [])) (lN (qJ P))) (nN (ls P) (lN (nS P)) .nil)) (nN (gV P) (nN (jf P) (lN (rk P)) (lN (zO))) (nN (mu P) (lN (nH P)) .nil)))) (nN (eJ P) (nN (eO P) (nN (iQ P) (nN (tT []) (lN (kP P)) (lN (rx P))) (nN (kG P) (lN (qZ P)) .nil)) (nN (ik P) (nN (ju P) (lN (tT [])) (lN (rh P))) (nN (ji P) (lN (tT [])) .nil))) (nN (iI P) (nN (jE P) (nN (kL P) (lN (mB P)) (lN (tT []))) (nN (tT []) (lN (nM P)) .nil)) (nN (ic P) (nN (jG P) (lN (pf P)) .nil) (nN (tT []) (lN (uh P)) .nil)))))) (nN (boot_o_6 P) (nN (boot_o_10 P) (nN (dU P) (nN (fI P) (nN (gz P) (nN (jo P) (lN (lS P)) (lN (tT []))) (nN (js P) (lN (zO)) .nil)) (nN (tT []) (nN (zO) (lN (oU P)) (lN (tT [(sV "_law_thing" 750)]))) (nN (kT P) (lN (tT [])) .nil))) (nN (fU P) (nN (iF P) (nN (gx P) (lN (zO)) (lN (tT []))) (nN (tT []) (lN (tT [])) .nil)) (nN (tT []) (nN (tT []) (lN (mF P)) (lN (qw P))) (nN (jy P) (lN (ph P)) .nil)))) (nN (eQ P) (nN (eR P) (nN (tT []) (nN (fZ P) (lN (tT [])) (lN (uf P))) (nN (jx P) (lN (tT [(sV "self" 621)])) .nil)) (nN (gm P) (nN (iB P) (lN (me P)) (lN (tT []))) (nN (tT []) (lN (zO)) .nil))) (nN (gH P) (nN (tT []) (nN (tT []) (lN (oM P)) (lN (zO))) (nN (zO) (lN (rC P)) .nil)) (nN (tT []) (nN (kJ P) (lN (tT [])) .nil) (nN (oZ P) (lN (rQ P)) .nil))))) (nN (dN P) (nN (dY P) (nN (fG P) (nN (gM P) (nN (zO) (lN (tT [])) (lN (tT []))) (nN (iu P) (lN (oO P)) .nil)) (nN (tT []) (nN (iC P) (lN (zO)) (lN (tE P))) (nN (iV P) (lN (qO P)) .nil))) (nN (fX P) (nN (tT []) (nN (tT []) (lN (lU P)) (lN (uD P))) (nN (mQ P) (lN (tT [])) .nil)) (nN (iT P) (nN (tT []) (lN (tT [])) (lN (tT []))) (nN (oL P) (lN (qS P)) .nil)))) (nN (eh P) (nN (fL P) (nN (gI P) (nN (gb P) (lN (md P)) (lN (zO))) (nN (tT []) (lN (pq P)) .nil)) (nN (tT []) (nN (ia P) (lN (mH P)) (lN (tT []))) (nN (jv P) (lN (nW P)) .nil))) (nN (tT []) (nN (jY P) (nN (lf P) (lN (mw P)) (lN (qv P))) (nN (kK P) (lN (zO)) .nil)) (nN (tT []) (nN (zO) (lN (qy P)) .nil) (nN (mr P) (lN (qx P)) .nil)))))))), 442, lf0, ⟨[]⟩, ⟨0, 0, 0, 0⟩, 782, os⟩ : Params → SharedT) w.params
noncomputable def Bj : List Stmt := ((behindTheImports pw).drop 32).take 15
noncomputable def sE (w : World) : Prop := (fun os => segRunT treeTable pw w m0 ann 1 394 (S13 w os) (piecesOf Bj env cE ⟨129, 0, 174, 16⟩ B)) = fun os => some (Flow.next, S14 w os, cE, ⟨243, 0, 247, 17⟩)
theorem Ee (w : World) : sE (w.withFollow "special-get-raises" false) := by
  unfold sE
  rw [PySem.W.Fast.te10110043849684766642, PySem.W.Fast.te14364793385576792824]
  kernel_rfl
theorem Da (w : World) : sE (w.withFollow "special-get-raises" true) := by
  unfold sE
  rw [PySem.W.Fast.te10110043849684766642, PySem.W.Fast.te14364793385576792824]
  kernel_rfl
theorem FG (w : World) : sE w := byRow2 "special-get-raises" Ee Da w
noncomputable def xz (P : Params) : Obj := ⟨(.type "dict"), none, (.dict ⟨[en P "__name__" 165 (sV "law_uf020020_13" 729), en P "__doc__" 166 .none, en P "__package__" 167 .none, en P "__loader__" 168 (.builtin "__main__.__loader__#opaque"), en P "__spec__" 169 .none, en P "__annotations__" 170 (.ref 6), en P "__builtins__" 171 (.ref 4), en P "__file__" 173 (sV "/claim/cut.py" 172), en P "__cached__" 174 .none, en P "_wall" 193 (.ref 21), en P "PostError" 213 (.ref 31), en P "BadBounds" 229 (.ref 44), en P "BadRing" 245 (.ref 56), en P "BadTexts" 261 (.ref 68), en P "BadStep" 277 (.ref 80), en P "NotNow" 293 (.ref 92), en P "NoLetter" 309 (.ref 104), en P "NoLine" 325 (.ref 116), en P "MOST_WINDOW" 329 (.int (20) 328), en P "MOST_BACK" 331 (.int (20) 330), en P "MOST_RING" 333 (.int (200) 332), en P "MOST_TEXTS" 335 (.int (400) 334), en P "MOST_SIGNS" 337 (.int (40) 336), en P "is_among" 346 (.ref 125), en P "are_bounds" 353 (.ref 132), en P "need_bounds" 360 (.ref 139), en P "need_ring" 367 (.ref 146), en P "need_texts" 375 (.ref 153), en P "Post" 437 (.ref 198), en P "Sender" 499 (.ref 240), en P "Taker" 563 (.ref 287), en P "WORDS" 569 (.ref 292), en P "MOST_NUMBER" 571 (.int (999999) 570), en P "is_step" 578 (.ref 299), en P "need_step" 585 (.ref 306), en P "Run" 677 (.ref 370), en P "FIGURES" 681 (sV "0123456789" 680), en P "ANSWERS" 691 (.ref 375), en P "MOST_FIGURES" 693 (.int (6) 692), en P "number_of" 701 (.ref 382), en P "read" 712 (.ref 389), en P "answered" 722 (.ref 396), en P "played" 728 (.ref 401), en P "_law_at" 738 (.ref 408), en P "_law_mixed" 746 (.ref 415), en P "_law_whole" 753 (.ref 422), en P "_law_bounds" 765 (.ref 429), en P "_law_texts" 771 (.ref 434), en P "_law_begun" 781 (.ref 441), en P "_law_send" 789 (.ref 448), en P "_law_is_there" 798 (.ref 455), en P "_law_hand" 810 (.ref 462), en P "_law_tell" 819 (.ref 469), en P "_law_moved" 827 (.ref 476), en P "_law_drawn" 841 (.ref 483), en P "_law_due" 851 (.ref 490), en P "_law_refused" 862 (.ref 497), en P "law" 885 (.ref 504)]⟩ 58), ⟨[]⟩⟩
noncomputable def xR (P : Params) : Obj := ⟨.none, none, (.fields ⟨[(.int (1) 0), (.int (0) 0), (.ref 20), (.int (5) 0), (.int (0) 0), (.ref 27), (.int (7) 0), (.int (0) 0), (.ref 40), (.int (9) 0), (.int (0) 0), (.ref 52), (.int (11) 0), (.int (0) 0), (.ref 64), (.int (13) 0), (.int (0) 0), (.ref 76), (.int (15) 0), (.int (0) 0), (.ref 88), (.int (17) 0), (.int (0) 0), (.ref 100), (.int (19) 0), (.int (0) 0), (.ref 112), (.int (27) 0), (.int (0) 0), (.ref 124), (.int (29) 0), (.int (0) 0), (.ref 131), (.int (35) 0), (.int (0) 0), (.ref 138), (.int (38) 0), (.int (0) 0), (.ref 145), (.int (41) 0), (.int (0) 0), (.ref 152), (.int (48) 0), (.int (0) 0), (.ref 159), (.int (69) 0), (.int (0) 0), (.ref 208), (.int (93) 0), (.int (0) 0), (.ref 250), (.int (122) 0), (.int (0) 0), (.ref 298), (.int (126) 0), (.int (0) 0), (.ref 305), (.int (129) 0), (.int (0) 0), (.ref 312), (.int (179) 0), (.int (0) 0), (.ref 381), (.int (186) 0), (.int (0) 0), (.ref 388), (.int (196) 0), (.int (0) 0), (.ref 395), (.int (207) 0), (.int (0) 0), (.ref 400), (.int (211) 0), (.int (0) 0), (.ref 407), (.int (215) 0), (.int (0) 0), (.ref 414), (.int (217) 0), (.int (0) 0), (.ref 421), (.int (219) 0), (.int (0) 0), (.ref 428), (.int (234) 0), (.int (0) 0), (.ref 433), (.int (243) 0), (.int (0) 0), (.ref 440), (.int (248) 0), (.int (0) 0), (.ref 447), (.int (254) 0), (.int (0) 0), (.ref 454), (.int (256) 0), (.int (0) 0), (.ref 461), (.int (268) 0), (.int (0) 0), (.ref 468), (.int (277) 0), (.int (0) 0), (.ref 475), (.int (283) 0), (.int (0) 0), (.ref 482), (.int (299) 0), (.int (0) 0), (.ref 489), (.int (304) 0), (.int (0) 0), (.ref 496), (.int (311) 0), (.int (0) 0), (.ref 503)]⟩), ⟨[]⟩⟩
noncomputable def ur (P : Params) : Obj := tT [(sV "_law_m" 785), (sV "_law_k" 786)]
noncomputable def tQ (P : Params) : Obj := cO "_law_send" 782 "_law_send" 783 784 248 2 3 442 true 181 443 .none (.ref 444) (.ref 445) (.ref 446) 787 248 788
noncomputable def um (P : Params) : Obj := gO "_law_send" "_law_send" pw.main.body 47 (sV "law_uf020020_13" 729) 447
noncomputable def tC (P : Params) : Obj := tT [(sV "_law_rows" 793), (sV "_law_number" 794), (sV "_law_bound" 795)]
noncomputable def uG (P : Params) : Obj := cO "_law_is_there" 790 "_law_is_there" 791 792 254 3 3 449 true 181 450 .none (.ref 451) (.ref 452) (.ref 453) 796 254 797
noncomputable def uL (P : Params) : Obj := gO "_law_is_there" "_law_is_there" pw.main.body 48 (sV "law_uf020020_13" 729) 454
noncomputable def uA (P : Params) : Obj := tT [(sV "_law_m" 802), (sV "_law_number" 803), (sV "_law_bears" 804), (sV "_law_text" 805), (sV "_law_want" 806), (sV "_law_step" 807)]
noncomputable def uM (P : Params) : Obj := cO "_law_hand" 799 "_law_hand" 800 801 256 2 3 456 true 181 457 .none (.ref 458) (.ref 459) (.ref 460) 808 256 809
noncomputable def tz (P : Params) : Obj := gO "_law_hand" "_law_hand" pw.main.body 49 (sV "law_uf020020_13" 729) 461
noncomputable def uH (P : Params) : Obj := tT [(sV "_law_m" 814), (sV "_law_number" 815), (sV "_law_step" 816)]
noncomputable def uT (P : Params) : Obj := cO "_law_tell" 811 "_law_tell" 812 813 268 2 3 463 true 181 464 .none (.ref 465) (.ref 466) (.ref 467) 817 268 818
noncomputable def uO (P : Params) : Obj := gO "_law_tell" "_law_tell" pw.main.body 50 (sV "law_uf020020_13" 729) 468
noncomputable def tK (P : Params) : Obj := tT [(sV "_law_m" 823), (sV "_law_step" 824)]
noncomputable def uz (P : Params) : Obj := cO "_law_moved" 820 "_law_moved" 821 822 277 2 3 470 true 181 471 .none (.ref 472) (.ref 473) (.ref 474) 825 277 826
noncomputable def tS (P : Params) : Obj := gO "_law_moved" "_law_moved" pw.main.body 51 (sV "law_uf020020_13" 729) 475
noncomputable def tJ (P : Params) : Obj := tT [(sV "_law_m" 831), (sV "_law_cell" 832), (sV "_law_kind" 833), (sV "_law_more" 834), (sV "_law_k" 835), (sV "_law_rows" 836), (sV "_law_bound" 837), (sV "_law_back" 838)]
noncomputable def uP (P : Params) : Obj := cO "_law_drawn" 828 "_law_drawn" 829 830 283 2 3 477 true 181 478 .none (.ref 479) (.ref 480) (.ref 481) 839 283 840
noncomputable def uC (P : Params) : Obj := gO "_law_drawn" "_law_drawn" pw.main.body 52 (sV "law_uf020020_13" 729) 482
noncomputable def ud (P : Params) : Obj := tT [(sV "_law_m" 845), (sV "_law_step" 846), (sV "_law_kind" 847), (sV "_law_told" 848)]
noncomputable def ux (P : Params) : Obj := cO "_law_due" 842 "_law_due" 843 844 299 2 3 484 true 181 485 .none (.ref 486) (.ref 487) (.ref 488) 849 299 850
noncomputable def tF (P : Params) : Obj := gO "_law_due" "_law_due" pw.main.body 53 (sV "law_uf020020_13" 729) 489
noncomputable def tY (P : Params) : Obj := tT [(sV "_law_bounds_here" 855), (sV "_law_ring" 856), (sV "_law_texts_here" 857), (sV "error" 858), (sV "_law_kinds" 859)]
noncomputable def tA (P : Params) : Obj := cO "_law_refused" 852 "_law_refused" 853 854 304 3 3 491 true 181 492 .none (.ref 493) (.ref 494) (.ref 495) 860 304 861
noncomputable def tU (P : Params) : Obj := gO "_law_refused" "_law_refused" pw.main.body 54 (sV "law_uf020020_13" 729) 496
noncomputable def uK (P : Params) : Obj := tT [(sV "_law_script" 866), (sV "_law_bounds_here" 867), (sV "_law_window" 868), (sV "_law_room" 869), (sV "_law_delay" 870), (sV "_law_back" 871), (sV "_law_ring" 872), (sV "_law_texts_here" 873), (sV "_law_m" 874), (sV "_law_lines" 875), (sV "_law_due_here" 876), (sV "_law_cell" 877), (sV "_law_step" 878), (sV "_law_odd" 879), (sV "_law_handed" 880), (sV "_law_turn" 881), (sV "_law_found" 882)]
noncomputable def tM (P : Params) : Obj := cO "law" 863 "law" 864 865 311 1 3 498 true 181 499 .none (.ref 500) (.ref 501) (.ref 502) 883 311 884
noncomputable def tD (P : Params) : Obj := gO "law" "law" pw.main.body 55 (sV "law_uf020020_13" 729) 503
noncomputable def S15 (w : World) (os : OsState) : SharedT := (fun P => ⟨(nN (boot_o_0 P) (nN (boot_o_1 P) (nN (xz P) (nN (boot_o_7 P) (nN (ec P) (nN (lx P) (nN (zO) (nN (zO) (lN (tT [])) (lN (tT []))) (nN (jh P) (lN (oF P)) (lN (tQ P)))) (nN (kb P) (nN (kY P) (lN (mE P)) (lN (rD P))) (nN (kB P) (lN (rO P)) (lN (tJ P))))) (nN (fD P) (nN (gC P) (nN (tT []) (lN (kW P)) (lN (uS P))) (nN (lg P) (lN (tT [])) (lN (tT [])))) (nN (zO) (nN (tT []) (lN (tT [])) (lN (zO))) (nN (iZ P) (lN (og P)) (lN (fO "_law_refused" "_law_refused" pw.main.body 54)))))) (nN (eK P) (nN (fq P) (nN (gQ P) (nN (gf P) (lN (mh P)) (lN (zO))) (nN (gY P) (lN (oz P)) (lN (uL P)))) (nN (fB P) (nN (gT P) (lN (mq P)) (lN (tT []))) (nN (tT []) (lN (nR P)) (lN (tT []))))) (nN (fS P) (nN (zO) (nN (lk P) (lN (ma P)) (lN (ro P))) (nN (kR P) (lN (zO)) (lN (zO)))) (nN (tT []) (nN (zO) (lN (rj P)) (lN (tN P))) (nN (nJ P) (lN (rM P)) (lN (tM P))))))) (nN (dK P) (nN (eU P) (nN (fA P) (nN (gR P) (nN (iy P) (lN (tT [])) (lN (fO "read" "read" pw.main.body 37))) (nN (jq P) (lN (oc P)) (lN (tC P)))) (nN (zO) (nN (jm P) (lN (oR P)) (lN (tT []))) (nN (tT []) (lN (zO)) (lN (uC P))))) (nN (gL P) (nN (jD P) (nN (tT []) (lN (mD P)) (lN (zO))) (nN (zO) (lN (qu P)) (lN (fO "_law_tell" "_law_tell" pw.main.body 50)))) (nN (iD P) (nN (lr P) (lN (tT [])) (lN (tT []))) (nN (mI P) (lN (pj P)) (lN (zO)))))) (nN (eT P) (nN (eP P) (nN (zO) (nN (gy P) (lN (zO)) (lN (rT P))) (nN (tT []) (lN (tT [])) (lN (tT [])))) (nN (tT [(.ref 31)]) (nN (tT []) (lN (ml P)) (lN (tV P))) (nN (kz P) (lN (tT [(sV "self" 659)])) (lN (tT []))))) (nN (gP P) (nN (iY P) (nN (kS P) (lN (mO P)) (lN (qV P))) (nN (ku P) (lN (oX P)) (lN (uz P)))) (nN (jp P) (nN (jB P) (lN (zO)) (lN (zO))) (nN (oJ P) (lN (tT [])) .nil)))))) (nN (boot_o_5 P) (nN (boot_o_9 P) (nN (em P) (nN (fC P) (nN (iL P) (nN (tT []) (lN (mK P)) (lN (rt P))) (nN (lq P) (lN (tT [])) (lN (tT [])))) (nN (lH P) (nN (tT []) (lN (mz P)) (lN (zO))) (nN (zO) (lN (oV P)) (lN (fO "_law_drawn" "_law_drawn" pw.main.body 52))))) (nN (fW P) (nN (iG P) (nN (gc P) (lN (tT [])) (lN (qF P))) (nN (kO P) (lN (tT [(sV "self" 628)])) (lN (uH P)))) (nN (hN P) (nN (ib P) (lN (lR P)) (lN (qM P))) (nN (jj P) (lN (pv P)) (lN (tU P)))))) (nN (eV P) (nN (fy P) (nN (iP P) (nN (ir P) (lN (kQ P)) (lN (tT []))) (nN (jF P) (lN (zO)) (lN (zO)))) (nN (gi P) (nN (zO) (lN (pr P)) (lN (qW P))) (nN (jl P) (lN (tT [])) (lN (ux P))))) (nN (gB P) (nN (jW P) (nN (jw P) (lN (zO)) (lN (tT []))) (nN (tT []) (lN (tT [])) (lN (tT [])))) (EA P)))) (nN (dM P) (nN (eg P) (nN (fw P) (nN (gS P) (nN (tT []) (lN (lm P)) (lN (rF P))) (nN (ip P) (lN (rz P)) (lN (fO "_law_is_there" "_law_is_there" pw.main.body 48)))) (nN (gw P) (nN (jN P) (lN (tT [])) (lN (tw P))) (nN (ja P) (lN (tT [])) (lN (zO))))) (nN (gN P) (nN (jV P) (nN (iW P) (lN (oE P)) (lN (tT []))) (nN (tT []) (lN (po P)) (lN (uO P)))) (nN (jd P) (nN (jb P) (lN (rX P)) (lN (rH P))) (nN (tT []) (lN (qQ P)) (lN (tT [])))))) (nN (dX P) (nN (fE P) (nN (iH P) (nN (zO) (lN (tT [])) (lN (tT []))) (nN (kX P) (lN (oh P)) (lN (uM P)))) (nN (hZ P) (nN (ie P) (lN (zO)) (lN (rm P))) (nN (jO P) (lN (qG P)) (lN (tY P))))) (nN (iS P) (nN (jZ P) (nN (tT []) (lN (lX P)) (lN (tI P))) (nN (lY P) (lN (tT [])) (lN (tT [])))) (nN (iE P) (nN (tT []) (lN (tT [])) (lN (tT []))) (nN (zO) (lN (rK P)) .nil))))))) (nN (boot_o_2 P) (nN (boot_o_4 P) (nN (boot_o_8 P) (nN (eN P) (nN (eW P) (nN (iJ P) (nN (hJ P) (lN (nY P)) (lN (zO))) (nN (tT []) (lN (nG P)) (lN (um P)))) (nN (lP P) (nN (kj P) (lN (lT P)) (lN (tT []))) (nN (tT []) (lN (oy P)) (lN (tT []))))) (nN (fV P) (nN (gE P) (nN (ij P) (lN (kt P)) (lN (qT P))) (nN (kD P) (lN (zO)) (lN (zO)))) (nN (hX P) (nN (zO) (lN (pk P)) (lN (uy P))) (nN (iX P) (lN (pe P)) (lN (tA P)))))) (nN (eM P) (nN (fj P) (nN (iK P) (nN (tT []) (lN (lj P)) (lN (rR P))) (nN (iz P) (lN (tT [])) (lN (tT [])))) (nN (fz P) (nN (tT []) (lN (tT [])) (lN (zO))) (nN (zO) (lN (oW P)) (lN (fO "_law_due" "_law_due" pw.main.body 53))))) (nN (fR P) (nN (jU P) (nN (jH P) (lN (tT [])) (lN (qX P))) (nN (lp P) (lN (pi P)) (lN (tK P)))) (nN (zO) (nN (jC P) (lN (rG P)) (lN (rq P))) (nN (tT []) (lN (tT [])) (lN (tD P))))))) (nN (xR P) (nN (ei P) (nN (fT P) (nN (gG P) (nN (hU P) (lN (zO)) (lN (rN P))) (nN (jc P) (lN (tT [])) (lN (tT [])))) (nN (ig P) (nN (tT []) (lN (mj P)) (lN (uI P))) (nN (mP P) (lN (tT [(sV "self" 652)])) (lN (tT []))))) (nN (gJ P) (nN (kc P) (nN (zO) (lN (tT [])) (lN (qJ P))) (nN (ls P) (lN (nS P)) (lN (uT P)))) (nN (gV P) (nN (jf P) (lN (rk P)) (lN (zO))) (nN (mu P) (lN (nH P)) (lN (uK P)))))) (nN (eJ P) (nN (eO P) (nN (iQ P) (nN (tT []) (lN (kP P)) (lN (rx P))) (nN (kG P) (lN (qZ P)) (lN (fO "_law_hand" "_law_hand" pw.main.body 49)))) (nN (ik P) (nN (ju P) (lN (tT [])) (lN (rh P))) (nN (ji P) (lN (tT [])) (lN (zO))))) (nN (iI P) (nN (jE P) (nN (kL P) (lN (mB P)) (lN (tT []))) (nN (tT []) (lN (nM P)) (lN (tS P)))) (nN (ic P) (nN (jG P) (lN (pf P)) (lN (ur P))) (nN (tT []) (lN (uh P)) .nil)))))) (nN (boot_o_6 P) (nN (boot_o_10 P) (nN (dU P) (nN (fI P) (nN (gz P) (nN (jo P) (lN (lS P)) (lN (tT []))) (nN (js P) (lN (zO)) (lN (zO)))) (nN (tT []) (nN (zO) (lN (oU P)) (lN (tT [(sV "_law_thing" 750)]))) (nN (kT P) (lN (tT [])) (lN (uP P))))) (nN (fU P) (nN (iF P) (nN (gx P) (lN (zO)) (lN (tT []))) (nN (tT []) (lN (tT [])) (lN (tT [])))) (nN (tT []) (nN (tT []) (lN (mF P)) (lN (qw P))) (nN (jy P) (lN (ph P)) (lN (tT [])))))) (nN (eQ P) (nN (eR P) (nN (tT []) (nN (fZ P) (lN (tT [])) (lN (uf P))) (nN (jx P) (lN (tT [(sV "self" 621)])) (lN (uA P)))) (nN (gm P) (nN (iB P) (lN (me P)) (lN (tT []))) (nN (tT []) (lN (zO)) (lN (tF P))))) (nN (gH P) (nN (tT []) (nN (tT []) (lN (oM P)) (lN (zO))) (nN (zO) (lN (rC P)) (lN (fO "_law_moved" "_law_moved" pw.main.body 51)))) (nN (tT []) (nN (kJ P) (lN (tT [])) (lN (tT []))) (nN (oZ P) (lN (rQ P)) .nil))))) (nN (dN P) (nN (dY P) (nN (fG P) (nN (gM P) (nN (zO) (lN (tT [])) (lN (tT []))) (nN (iu P) (lN (oO P)) (lN (uG P)))) (nN (tT []) (nN (iC P) (lN (zO)) (lN (tE P))) (nN (iV P) (lN (qO P)) (lN (ud P))))) (nN (fX P) (nN (tT []) (nN (tT []) (lN (lU P)) (lN (uD P))) (nN (mQ P) (lN (tT [])) (lN (tT [])))) (nN (iT P) (nN (tT []) (lN (tT [])) (lN (tT []))) (nN (oL P) (lN (qS P)) (lN (fO "law" "law" pw.main.body 55)))))) (nN (eh P) (nN (fL P) (nN (gI P) (nN (gb P) (lN (md P)) (lN (zO))) (nN (tT []) (lN (pq P)) (lN (tz P)))) (nN (tT []) (nN (ia P) (lN (mH P)) (lN (tT []))) (nN (jv P) (lN (nW P)) (lN (tT []))))) (nN (tT []) (nN (jY P) (nN (lf P) (lN (mw P)) (lN (qv P))) (nN (kK P) (lN (zO)) (lN (zO)))) (nN (tT []) (nN (zO) (lN (qy P)) (lN (fO "_law_send" "_law_send" pw.main.body 47))) (nN (mr P) (lN (qx P)) .nil)))))))), 505, lf0, ⟨[]⟩, ⟨0, 0, 0, 0⟩, 886, os⟩ : Params → SharedT) w.params
noncomputable def Bk : List Stmt := ((behindTheImports pw).drop 47).take 9
noncomputable def AL (w : World) : Prop := (fun os => segRunT treeTable pw w m0 ann 1 303 (S14 w os) (piecesOf Bk env cE ⟨243, 0, 247, 17⟩ B)) = fun os => some (Flow.next, S15 w os, cE, ⟨311, 0, 337, 129⟩)
theorem FE (w : World) : AL w := by
  unfold AL
  rw [PySem.W.Fast.te10110043849684766642, PySem.W.Fast.te14364793385576792824]
  kernel_rfl
noncomputable def Sfh (P : Params) : Heap := ⟨⟨[boot_o_0 P, boot_o_1 P, boot_o_2 P, xz P, boot_o_4 P, boot_o_5 P, boot_o_6 P, boot_o_7 P, boot_o_8 P, boot_o_9 P, boot_o_10 P, dK P, xR P, dM P, dN P, ec P, eN P, em P, dU P, eU P, ei P, eg P, dY P, eK P, eM P, eV P, eQ P, eT P, eJ P, dX P, eh P, lx P, eW P, fC P, fI P, fA P, fT P, fw P, fG P, fq P, fj P, fy P, eR P, eP P, eO P, fE P, fL P, fD P, fV P, fW P, fU P, gL P, gJ P, gN P, fX P, fS P, fR P, gB P, gH P, gP P, iI P, iS P, (tT []), (zO), iJ P, iL P, gz P, gR P, gG P, gS P, gM P, gQ P, iK P, iP P, (tT []), (zO), iQ P, iH P, gI P, gC P, gE P, iG P, iF P, jD P, kc P, jV P, (tT []), (zO), jU P, jW P, (tT []), iY P, jE P, jZ P, jY P, kb P, lP P, lH P, (tT []), (zO), ig P, gw P, (tT []), fB P, fz P, gi P, gm P, (tT [(.ref 31)]), ik P, hZ P, (tT []), (zO), hX P, hN P, (tT []), iD P, gV P, jd P, iT P, (tT []), (zO), je P, (tT []), jp P, ic P, iE P, (tT []), (zO), hJ P, (tT []), jo P, iy P, hU P, (tT []), (zO), gf P, (tT []), ir P, fZ P, gy P, (tT []), (zO), gb P, (tT []), ij P, gc P, gx P, (tT []), (zO), iW P, (tT []), lk P, jH P, jw P, (tT []), kS P, kL P, (tT []), lf P, kY P, kj P, (tT []), (zO), jm P, (tT []), jN P, iC P, gT P, (tT []), (zO), iB P, (tT []), ju P, ie P, ia P, (tT []), (zO), ib P, (tT []), lr P, jf P, jb P, (tT []), (zO), jC P, (tT []), kJ P, jB P, jG P, (tT []), (zO), jh P, (tT []), lq P, js P, jq P, jc P, ip P, iu P, gY P, iz P, jF P, jx P, (tT []), kG P, kX P, (tT []), lg P, kD P, kO P, (tT []), (zO), ls P, (tT []), mQ P, kR P, lp P, (tT []), (zO), ku P, (tT []), lY P, kK P, kB P, (tT []), (zO), kT P, (tT []), mP P, ja P, iV P, (tT []), (zO), jl P, (tT []), kz P, ji P, jO P, jv P, iZ P, iX P, jj P, jy P, mI P, mu P, (tT []), oL P, nJ P, (tT []), rI P, oZ P, oJ P, (tT []), (zO), mr P, (tT []), nY P, mK P, lS P, (tT []), (zO), lm P, (tT []), mh P, lj P, kQ P, (tT []), (zO), kP P, (tT []), md P, kW P, kt P, (tT []), (zO), mD P, (tT []), oE P, lU P, ma P, (tT []), (zO), oM P, mO P, mB P, lX P, mw P, mE P, lT P, mz P, oU P, oR P, mj P, (tT []), (zO), mq P, (tT []), pr P, me P, ml P, (tT []), (zO), mH P, (tT []), pk P, lR P, mF P, (tT []), rk P, rX P, (tT []), rj P, rG P, uQ P, (tT []), (zO), pf P, (tT []), qy P, oF P, nG P, (tT []), (zO), oc P, (tT []), rz P, oO P, oz P, (tT []), (zO), (tT [(sV "self" 621)]), (tT []), qZ P, oh P, pq P, (tT []), (zO), (tT [(sV "self" 628)]), (tT []), qu P, nS P, po P, (tT []), (zO), pi P, (tT []), rC P, oX P, nM P, (tT []), (zO), rO P, oy P, oV P, (tT []), (zO), (tT [(sV "self" 652)]), (tT []), qO P, nR P, oW P, (tT []), (zO), (tT [(sV "self" 659)]), (tT []), qG P, nW P, og P, pe P, pv P, ph P, pj P, nH P, qQ P, qS P, rM P, (tT []), (zO), rQ P, (tT []), uh P, rK P, qx P, (tT []), (zO), rt P, (tT []), (fO "read" "read" pw.main.body 37), rN P, rF P, (tT []), (zO), rR P, (tT []), uf P, rT P, rx P, (tT []), (zO), uS P, qT P, qF P, (tT []), (zO), qJ P, (tT []), uD P, ro P, qX P, (tT []), (zO), qV P, (tT []), tI P, qv P, rD P, (tT []), (zO), (tT [(sV "_law_thing" 750)]), (tT []), uI P, tw P, tE P, (tT []), (zO), qW P, (tT []), tV P, rh P, rm P, (tT []), (zO), uy P, qM P, qw P, (tT []), (zO), rH P, (tT []), tN P, rq P, uB P, (tT []), (zO), ur P, (tT []), (fO "_law_send" "_law_send" pw.main.body 47), tQ P, um P, (tT []), (zO), tC P, (tT []), (fO "_law_is_there" "_law_is_there" pw.main.body 48), uG P, uL P, (tT []), (zO), uA P, (tT []), (fO "_law_hand" "_law_hand" pw.main.body 49), uM P, tz P, (tT []), (zO), uH P, (tT []), (fO "_law_tell" "_law_tell" pw.main.body 50), uT P, uO P, (tT []), (zO), tK P, (tT []), (fO "_law_moved" "_law_moved" pw.main.body 51), uz P, tS P, (tT []), (zO), tJ P, (tT []), (fO "_law_drawn" "_law_drawn" pw.main.body 52), uP P, uC P, (tT []), (zO), ud P, (tT []), (fO "_law_due" "_law_due" pw.main.body 53), ux P, tF P, (tT []), (zO), tY P, (tT []), (fO "_law_refused" "_law_refused" pw.main.body 54), tA P, tU P, (tT []), (zO), uK P, (tT []), (fO "law" "law" pw.main.body 55), tM P, tD P]⟩, lf0⟩
noncomputable def Sf (w : World) (os : OsState) : Shared := ⟨Sfh w.params, ⟨[]⟩, ⟨0, 0, 0, 0⟩, 886, os⟩
noncomputable def Eh (w : World) : Prop := (fun os => topRun treeTable pw w m0 ann 2 (S15 w os).abs ⟨doneF .next, cE, ⟨311, 0, 337, 129⟩, B⟩) = fun os => some (Sf w os)
theorem fin (w : World) : Eh w := by
  unfold Eh
  rw [PySem.W.Fast.te14082659384304107361, PySem.W.Fast.te14364793385576792824]
  kernel_rfl
noncomputable def K (P : Params) : Frag := [(2, boot_o_2 P), (3, xz P), (15, ec P), (17, em P), (18, dU P), (20, ei P), (21, eg P), (22, dY P), (29, dX P), (30, eh P), (31, lx P), (32, eW P), (35, fA P), (42, eR P), (43, eP P), (44, eO P), (47, fD P), (54, fX P), (55, fS P), (56, fR P), (59, gP P), (66, gz P), (67, gR P), (68, gG P), (71, gQ P), (78, gI P), (79, gC P), (80, gE P), (83, jD P), (90, (tT [])), (91, iY P), (92, jE P), (95, kb P), (102, (tT [])), (103, fB P), (104, fz P), (107, (tT [(.ref 31)])), (114, (tT [])), (115, iD P), (116, gV P), (119, (tT [])), (121, je P), (122, (tT [])), (124, ic P), (125, iE P), (126, (tT [])), (128, hJ P), (129, (tT [])), (131, iy P), (132, hU P), (133, (tT [])), (135, gf P), (136, (tT [])), (138, fZ P), (139, gy P), (140, (tT [])), (142, gb P), (143, (tT [])), (145, gc P), (146, gx P), (147, (tT [])), (149, iW P), (150, (tT [])), (152, jH P), (153, jw P), (161, (tT [])), (163, jm P), (164, (tT [])), (166, iC P), (167, gT P), (168, (tT [])), (170, iB P), (171, (tT [])), (173, ie P), (174, ia P), (175, (tT [])), (177, ib P), (178, (tT [])), (180, jf P), (181, jb P), (182, (tT [])), (184, jC P), (185, (tT [])), (187, jB P), (188, jG P), (189, (tT [])), (191, jh P), (192, (tT [])), (194, js P), (195, jq P), (196, jc P), (197, ip P), (198, iu P), (199, gY P), (200, iz P), (210, (tT [])), (212, ls P), (213, (tT [])), (215, kR P), (216, lp P), (217, (tT [])), (219, ku P), (220, (tT [])), (222, kK P), (223, kB P), (224, (tT [])), (226, kT P), (227, (tT [])), (229, ja P), (230, iV P), (231, (tT [])), (233, jl P), (234, (tT [])), (236, ji P), (237, jO P), (238, jv P), (239, iZ P), (240, iX P), (241, jj P), (242, jy P), (252, (tT [])), (254, mr P), (255, (tT [])), (257, mK P), (258, lS P), (259, (tT [])), (261, lm P), (262, (tT [])), (264, lj P), (265, kQ P), (266, (tT [])), (268, kP P), (269, (tT [])), (271, kW P), (272, kt P), (273, (tT [])), (275, mD P), (276, (tT [])), (278, lU P), (279, ma P), (280, (tT [])), (283, mO P), (284, mB P), (285, lX P), (286, mw P), (287, mE P), (288, lT P), (289, mz P), (292, mj P), (293, (tT [])), (295, mq P), (296, (tT [])), (298, me P), (299, ml P), (300, (tT [])), (302, mH P), (303, (tT [])), (305, lR P), (306, mF P), (314, (tT [])), (316, pf P), (317, (tT [])), (319, oF P), (320, nG P), (321, (tT [])), (323, oc P), (324, (tT [])), (326, oO P), (327, oz P), (328, (tT [])), (330, (tT [(sV "self" 621)])), (331, (tT [])), (333, oh P), (334, pq P), (335, (tT [])), (337, (tT [(sV "self" 628)])), (338, (tT [])), (340, nS P), (341, po P), (342, (tT [])), (344, pi P), (345, (tT [])), (347, oX P), (348, nM P), (349, (tT [])), (352, oy P), (353, oV P), (354, (tT [])), (356, (tT [(sV "self" 652)])), (357, (tT [])), (359, nR P), (360, oW P), (361, (tT [])), (363, (tT [(sV "self" 659)])), (364, (tT [])), (366, nW P), (367, og P), (368, pe P), (369, pv P), (370, ph P), (371, pj P), (372, nH P), (375, rM P), (376, (tT [])), (378, rQ P), (379, (tT [])), (381, rK P), (382, qx P), (383, (tT [])), (385, rt P), (386, (tT [])), (388, rN P), (389, rF P), (390, (tT [])), (392, rR P), (393, (tT [])), (395, rT P), (396, rx P), (397, (tT [])), (400, qT P), (401, qF P), (402, (tT [])), (404, qJ P), (405, (tT [])), (407, ro P), (408, qX P), (409, (tT [])), (411, qV P), (412, (tT [])), (414, qv P), (415, rD P), (423, (tT [])), (425, qW P), (426, (tT [])), (428, rh P), (429, rm P), (430, (tT [])), (433, qM P), (434, qw P), (435, (tT [])), (437, rH P), (438, (tT [])), (440, rq P), (441, uB P), (442, (tT [])), (444, ur P), (445, (tT [])), (447, tQ P), (448, um P), (449, (tT [])), (451, tC P), (452, (tT [])), (454, uG P), (455, uL P), (456, (tT [])), (458, uA P), (459, (tT [])), (461, uM P), (462, tz P), (463, (tT [])), (465, uH P), (466, (tT [])), (468, uT P), (469, uO P), (470, (tT [])), (472, tK P), (473, (tT [])), (475, uz P), (476, tS P), (477, (tT [])), (479, tJ P), (480, (tT [])), (482, uP P), (483, uC P), (484, (tT [])), (486, ud P), (487, (tT [])), (489, ux P), (490, tF P), (491, (tT [])), (493, tY P), (494, (tT [])), (496, tA P), (497, tU P), (498, (tT [])), (500, uK P), (501, (tT [])), (503, tM P), (504, tD P)]
noncomputable def kas : List Addr := [2, 3, 15, 17, 18, 20, 21, 22, 29, 30, 31, 32, 35, 42, 43, 44, 47, 54, 55, 56, 59, 66, 67, 68, 71, 78, 79, 80, 83, 90, 91, 92, 95, 102, 103, 104, 107, 114, 115, 116, 119, 121, 122, 124, 125, 126, 128, 129, 131, 132, 133, 135, 136, 138, 139, 140, 142, 143, 145, 146, 147, 149, 150, 152, 153, 161, 163, 164, 166, 167, 168, 170, 171, 173, 174, 175, 177, 178, 180, 181, 182, 184, 185, 187, 188, 189, 191, 192, 194, 195, 196, 197, 198, 199, 200, 210, 212, 213, 215, 216, 217, 219, 220, 222, 223, 224, 226, 227, 229, 230, 231, 233, 234, 236, 237, 238, 239, 240, 241, 242, 252, 254, 255, 257, 258, 259, 261, 262, 264, 265, 266, 268, 269, 271, 272, 273, 275, 276, 278, 279, 280, 283, 284, 285, 286, 287, 288, 289, 292, 293, 295, 296, 298, 299, 300, 302, 303, 305, 306, 314, 316, 317, 319, 320, 321, 323, 324, 326, 327, 328, 330, 331, 333, 334, 335, 337, 338, 340, 341, 342, 344, 345, 347, 348, 349, 352, 353, 354, 356, 357, 359, 360, 361, 363, 364, 366, 367, 368, 369, 370, 371, 372, 375, 376, 378, 379, 381, 382, 383, 385, 386, 388, 389, 390, 392, 393, 395, 396, 397, 400, 401, 402, 404, 405, 407, 408, 409, 411, 412, 414, 415, 423, 425, 426, 428, 429, 430, 433, 434, 435, 437, 438, 440, 441, 442, 444, 445, 447, 448, 449, 451, 452, 454, 455, 456, 458, 459, 461, 462, 463, 465, 466, 468, 469, 470, 472, 473, 475, 476, 477, 479, 480, 482, 483, 484, 486, 487, 489, 490, 491, 493, 494, 496, 497, 498, 500, 501, 503, 504]
theorem Cd : behindTheImports pw = (De ++ (CV ++ (Dd ++ (Ej ++ (Du ++ (EJ ++ (EL ++ (Dr ++ (Et ++ (Ei ++ (Bs ++ (AO ++ (Be ++ (Bj ++ (Bk ++ []))))))))))))))) := by kernel_rfl
noncomputable def Fc : Nat := 12 + (1 + (225 + (214 + (214 + (214 + (214 + (214 + (214 + (386 + (398 + (326 + (383 + (59 + (452 + (394 + (303 + 2))))))))))))))))
theorem rest (w : World) (os : OsState) : topRun treeTable pw w m0 ann ((225 + (214 + (214 + (214 + (214 + (214 + (214 + (386 + (398 + (326 + (383 + (59 + (452 + (394 + (303 + 2)))))))))))))))) (Sb w os).abs (restOf (behindTheImports pw) env cE ⟨0, 0, 0, 0⟩ B) = some (Sf w os) := by
  rw [Cd]
  exact (piece_app (segRun_of (congrFun (pc0 w) os)) (piece_app (segRun_of (congrFun (pc1 w) os)) (piece_app (segRun_of (congrFun (pc2 w) os)) (piece_app (segRun_of (congrFun (pc3 w) os)) (piece_app (segRun_of (congrFun (pc4 w) os)) (piece_app (segRun_of (congrFun (pc5 w) os)) (piece_app (segRun_of (congrFun (pc6 w) os)) (piece_app (segRun_of (congrFun (pc7 w) os)) (piece_app (segRun_of (congrFun (pc8 w) os)) (piece_app (segRun_of (congrFun (pc9 w) os)) (piece_app (segRun_of (congrFun (FF w) os)) (piece_app (segRun_of (congrFun (Fs w) os)) (piece_app (segRun_of (congrFun (Fi w) os)) (piece_app (segRun_of (congrFun (FG w) os)) (piece_app (segRun_of (congrFun (FE w) os)) (piece_nil (congrFun (fin w) os)))))))))))))))))
theorem run (w : World) (os : OsState) : topRun treeTable pw w m0 ann Fc (S0 w os) (topStub pw) = some (Sf w os) :=
  go_top (congrFun (pre w) os) (piece_block (congrFun (blk w) os) (rest w os))
noncomputable def Dp : Nat := 8516
noncomputable def q : Program := view pw [0, 2, 3, 4, 5, 6, 7, 8, 9, 11, 12, 13, 14, 15, 16, 17, 18, 19, 20, 22, 24, 25, 27, 28, 29, 30, 31, 33, 34, 35, 36, 37, 38, 39, 41, 42, 43, 44, 45, 46, 47, 48, 49, 50, 51, 52, 53, 54, 55]
noncomputable def loose : List Str := [(sS "ANSWERS")]
end Ap.L13
end
section
namespace Ap.L13
open PySem PySem.W PySem.Calls PyProof.Rows
noncomputable abbrev rw0 : OpenLaw := PySem.Challenge.rw_uf020020_13
noncomputable abbrev rr : RowW := (OpenLaw.row rw0).toRowW
theorem Fk (P : Params) : kas = (K P).map (·.1) := by kernel_rfl
noncomputable abbrev hk : Hook := kHook K kas Fk
noncomputable def lv : List (Str × WData) := []
noncomputable def Xt : Shared → Bool := fun s => xlAt q lv s && recOk (RowW.records rr) s
theorem opn (w : World) : (fencedOpening treeTable pw w Dp).map (fun s => (s.heap, s.gens, s.drawn, s.toks)) = some (boot_heap w.params, Array.mk [], boot_drawn, boot_toks) :=
  boot_open (by kernel_rfl) (by kernel_rfl) (fun s => by kernel_rfl) w
theorem siz (w : World) : ((boot_heap w.params).isNs mainGlobals && (Array.mk [] : Array GenState).size == 0, (boot_heap w.params).objs.size, (boot_heap w.params).nsMap mainGlobals "__annotations__") = (true, m0, ann) := by kernel_rfl
theorem lk0 (w : World) : (fun os => staticsOk (importedModules pw.main.body) (boot_heap w.params) (Sfh w.params) && namesBound pw (Sfh w.params) && gensDone (Sf w os) && laidKept (boot_heap w.params) (Sfh w.params)) = fun os => true := by
  rw [PySem.W.Fast.te5923862056798008813]
  kernel_rfl
theorem lk1 (w : World) : (fun os => seen ((recsOf q).map (·.name)) (ownsOf q) [] { (Sf w os) with gens := #[] }) = fun os => expectedOf q := by
  rw [PySem.W.Fast.te5160383126252970620, PySem.W.Fast.te3399658132070893891, PySem.W.Fast.te5991557255702980513]
  kernel_rfl
theorem lk2 (w : World) : (fun os => (Sf w os).heap.bltView) = fun os => bltViewBooted := by
  kernel_rfl
theorem lk3 (w : World) : (fun os => (Sf w os).heap.keysOk (looseW q loose) ((recsOf q).map (·.name)) ((litsOf q).map (·.1)) ((clssOf q (looseW q loose)).map (·.name)) && (Sf w os).heap.accountedOkI (importedModules pw.main.body) && (Sf w os).heap.isNs mainGlobals && (Sf w os).heap.isNs builtinsNs && tablesOk q (Sf w os).heap && Xt (Sf w os) && (if true then (Sf w os).gens.size == 0 else !leftWithCleanup (Sf w os).gens)) = fun os => true := by
  rw [PySem.W.Fast.te10880121769531294198, PySem.W.Fast.te821141287760084731, PySem.W.Fast.te3399658132070893891, PySem.W.Fast.te7409074990110511671, PySem.W.Fast.te13664370479719496447, PySem.W.Fast.te14722251495701143533, PySem.W.Fast.te5923862056798008813, PySem.W.Fast.te10994771534591457954]
  kernel_rfl
theorem lk4 (w : World) : (fun os => tabsOk q (Sf w os)) = fun os => true := by
  rw [PySem.W.Fast.te479339242167458305]
  kernel_rfl
theorem lk5 (w : World) : (fun os => pinSeenD q (drecsOf q) (Sf w os)) = fun os => pinGoodD (drecsOf q) := by
  rw [PySem.W.Fast.te16090120013241838585, PySem.W.Fast.te3247288618530077131]
  kernel_rfl
theorem lk6 (w : World) : (fun os => plainSeenE q (looseW q loose) (Sf w os)) = fun os => plainGoodE q (looseW q loose) := by
  rw [PySem.W.Fast.te2386780881361962483, PySem.W.Fast.te821141287760084731]
  kernel_rfl
theorem lk7 (w : World) : (fun os => plainSeenD q loose (Sf w os)) = fun os => plainGoodD q loose := by
  rw [PySem.W.Fast.te11698064438423848299]
  kernel_rfl
theorem lk8 (w : World) : (fun os => wideSeen q (Sf w os)) = fun os => wideGood q := by
  rw [PySem.W.Fast.te7317090234206586261]
  kernel_rfl
theorem lk9 (w : World) : (fun os => clsSeenW q loose (Sf w os)) = fun os => clsGoodW q loose := by
  rw [PySem.W.Fast.te7369524293546568484]
  kernel_rfl
theorem lkY (w : World) : (fun os => kas.map (Sf w os).heap.get?) = fun os => (K w.params).map fun p => some p.2 := by
  kernel_rfl
theorem looks (w : World) : (fun os => ((staticsOk (importedModules pw.main.body) (boot_heap w.params) (Sfh w.params) && namesBound pw (Sfh w.params) && gensDone (Sf w os) && laidKept (boot_heap w.params) (Sfh w.params)),
    openSeen q loose (importedModules pw.main.body) Xt true (Sf w os), hk.obs (Sf w os))) = fun _ => (true, openGood q loose, hk.val w) := by
  funext os
  exact looks_pair (congrFun (lk0 w) os) (looks_pair (α := _ × _) (β := List (Option Obj)) (looks_pair (congrFun (lk1 w) os) (looks_pair (congrFun (lk2 w) os) (looks_pair (congrFun (lk3 w) os) (looks_pair (congrFun (lk4 w) os) (looks_pair (congrFun (lk5 w) os) (looks_pair (congrFun (lk6 w) os) (looks_pair (congrFun (lk7 w) os) (looks_pair (congrFun (lk8 w) os) (congrFun (lk9 w) os))))))))) (congrFun (lkY w) os))
theorem left : LeftO pw q loose Xt hk.obs hk.val Dp := LeftO.of_pieces (H₀ := boot_heap) (H₁ := Sfh) opn siz run (by decide +kernel) looks
theorem dkS : (defOf q rr.name).isSome = true := by kernel_rfl
noncomputable def dk : DefRec × List (Str × PySem.Expr) := (defOf q rr.name).get dkS
theorem dkE : defOf q rr.name = some (dk.1, dk.2) := by kernel_rfl
theorem dkP : rr.prog.theDef rr.name = some (dk.1.params, dk.1.body, dk.1.scope) := by kernel_rfl
theorem dkK : kwWritten? dk.1.params.kwonlyargs dk.1.params.kw_defaults = some dk.2 := by kernel_rfl
theorem dkN : dk.1.name = Str.ofString "law" := by kernel_rfl
theorem ws : rw0.wellSaid = true := by
  rw [PySem.W.Fast.te9446332074065402090]
  kernel_rfl
theorem bare : rr.prog.bare := ⟨rfl, rfl, rfl, rfl, rfl, by decide +kernel⟩
theorem FH : (chainsOk q && opensWell rr.prog && (frees rr && rr.within.isEmpty)) = true := by kernel_rfl
theorem prm : RowW.promised (OpenLaw.row PySem.Challenge.rw_uf020020_13).toRowW := by w_witness2
theorem hd (hc : WalkO q loose (XL q lv) hk.says rr dk.1 dk.2 fun f vs => PySem.call f vs) : PySem.Challenge.rw_uf020020_13.Holds :=
  holds_law ws fun said => holds_open (r := OpenLaw.row rw0) left hk.of hk.keeps (fun s e => xl_of s (Bool.and_eq_true_iff.mp e).1) XL.keeps dkE dkP dkK (fun s e => recFacts_of (Bool.and_eq_true_iff.mp e).2) (by kernel_rfl) said FH bare prm hc
end Ap.L13
end
section
namespace Ap
open PySem
section
variable {σ : St} {Q : PQ} {E : PE} {ρ : Loc} {z : Bool} {n : Nat} {R : Option AV → St → Prop} {src : WX} {tb : TB} {caps : List Nat} {c e : WE} {v y : AV} {es : WL} {xs : List AV} {G : St → Prop} {K : Bool → Prop} {l : Nat} {x : Int}
theorem dE (h : σ l = some (.list xs)) : dG [.obj l] σ Q = Q (.int xs.length) σ := propext ⟨fun ⟨_, _, e1, e2, q⟩ => by cases e1; rw [h] at e2; cases e2; exact q, fun q => ⟨_, _, rfl, h, q⟩⟩
theorem bL {a b : Int} (h : 0 < b) : 0 ≤ a.fmod b := Int.fmod_nonneg_of_pos a h
theorem bW {a b : Int} (h : 0 < b) : a.fmod b < b := Int.fmod_lt_of_pos a h
theorem wb {a b : Int} {i : Nat} {x : AV} (h : (gp a b)[i]? = some x) : i < (b - a).toNat ∧ x = .int (a + i) := by
  unfold gp at h
  rw [List.getElem?_map, Option.map_eq_some_iff] at h
  obtain ⟨k, hk, rfl⟩ := h
  obtain ⟨h1, h2⟩ := List.getElem?_eq_some_iff.mp hk
  rw [List.getElem_range] at h2
  rw [List.length_range] at h1
  exact ⟨h1, by rw [h2]⟩
theorem lh (a b : Int) : (gp a b).length = (b - a).toNat := by unfold gp; rw [List.length_map, List.length_range]
theorem AX {u v : AV} {a : PyData} (h1 : rd 8 σ u = some a) (h2 : rd 8 σ v = some a) (h3 : PyData.eqv a a = true) : cNe u v σ K = K false := by rw [CK h1 h2, h3]; rfl
theorem Dv {u v : AV} {a : PyData} (h1 : rd 8 σ u = some a) (h2 : rd 8 σ v = some a) (h3 : PyData.eqv a a = true) : cEq u v σ K = K true := by rw [BN h1 h2, h3]
theorem qp {i j : Int} : cNe (.int i) (.int j) σ K = K (!(i == j)) := CK (p := .int i) (q := .int j) rfl rfl
theorem zd {xs : List AV} {i : Int} (h0 : 0 ≤ i) (h1 : i < xs.length) (h : ∀ v ∈ xs, Q v σ) : di (.ilist xs) (.int i) σ Q := by
  rw [i_l]
  refine ⟨h0, ?_⟩
  have hl : i.toNat < xs.length := by omega
  rw [List.getElem?_eq_getElem hl]
  exact h _ (List.getElem_mem hl)
theorem FY {i : Int} : kn .int (.int i) = true := rfl
theorem Fn {i : Int} : kn .bool (.int i) = false := rfl
theorem Gi {b : Bool} : kn .int (.bool b) = true := rfl
theorem Gd {b : Bool} : kn .bool (.bool b) = true := rfl
theorem EN {xs : List AV} : kn .tuple (.tup xs) = true := rfl
noncomputable def amongB (v : AV) (lo hi : Int) : Bool := match v with
  | .int i => decide (lo ≤ i) && decide (i ≤ hi)
  | _ => false
theorem cT {a b : Nat} {o : AObj} (h : σ a = some o) (hb : σ b = Option.none) : a ≠ b := fun q => by rw [q, hb] at h; cases h
end
end Ap
end
section
namespace Ap
open PySem PySem.Calls PyProof.Rows
noncomputable def sJ : O1 := fun v σ Q => (cq v = true ∧ Q (.bool (kn .list v)) σ) ∨ ∃ a xs, v = .obj a ∧ σ a = some (.list xs) ∧ Q (.bool true) σ
noncomputable def sY : ON := fun vs σ Q => ∃ v xs, vs = [v] ∧ dm σ v = some xs ∧ Q (.int xs.length) σ
section
variable {C : Cx} {T : Tabs} {P : Prg} {d : Nat} {sc : Scope} {nms nms' : List Str} {q : Bool} {A : Around} {V : Vo} {σ σ' : St} {ow ow' : Nat → Option Nat} {s s' : Shared} {env : Env}
theorem Both.isiE (X : CxOk C T P) {e : WE} {y : Expr} {n z : Str} {np zp pos : Pos} (he : Both C d sc nms q e y) (hst : df y = true) (hn : n = ("isinstance" : Str)) (hb : n ∈ T.bltN) (h3 : gl sc n = true) (hz : bootBuiltins z = some (tyV .list)) (hb' : z ∈ T.bltN) (h3' : gl sc z = true) :
    Both C d sc nms q (vO1 sJ e) (.Call (.Name n np) [y, .Name z zp] [] pos) :=
  .isiG X he hst hn hb h3 (fun A env envs ρ σ ow s Q E hs ok hq => by
    obtain ⟨g1, g2, g3⟩ := ef h3'
    exact bname X (by unfold Env.kindOf; rw [hs]; exact g1) g2 ok hb' g3 hz hq) fun A envs σ ow s Qa Q E v u g k r w => by
    rcases w with w | ⟨a, xs, rfl, e, w⟩
    · exact vG r w fun tk z => k.val g tk z (.bool _)
    · cases r
      obtain ⟨vs, ⟨_, m, hx⟩, _⟩ := g.store _ _ e
      exact IsiPair.list_list hx rfl (k.val g _ w (.bool _))
theorem zJ : iM C true (.builtin "len") sY := by
  intro A envs σ ow s Qa Q E vs vals hq g k r w
  obtain ⟨v, xs, rfl, e, w⟩ := w
  cases r with | cons r1 r2 =>
  cases r2
  cases v <;> first | cases e | skip
  · rename_i ys
    cases r1 with | ilist li off r =>
    refine len_list li.isList (by have := li.1; rw [List.size_toArray]; omega) ?_
    rw [List.size_toArray, ← r.length]
    exact k.val g _ w (.int _ _)
  · have hs := cQ e
    cases r1
    obtain ⟨vs, li, rr⟩ := g.store _ _ hs
    refine len_list li.isList (by have := li.1; rw [List.size_toArray]; omega) ?_
    rw [List.size_toArray, ← rr.length]
    exact k.val g _ w (.int _ _)
theorem sv : BiOk C true (Str.ofString "len") sY := ⟨⟨_, by decide +kernel, .inl ⟨_, rfl⟩, zJ⟩⟩
end
section
variable {σ : St} {Q : PQ} {v : AV} {xs : List AV} {l : Nat}
theorem Ae (h : cq v = true) : sJ v σ Q = Q (.bool (kn .list v)) σ := propext ⟨fun w => w.elim (fun w => w.2) (fun ⟨_, _, e, _⟩ => by subst e; cases h), fun q => Or.inl ⟨h, q⟩⟩
theorem zB (h : σ l = some (.list xs)) : sJ (.obj l) σ Q = Q (.bool true) σ := propext ⟨fun w => w.elim (fun w => by cases w.1) (fun ⟨_, _, _, _, w⟩ => w), fun q => Or.inr ⟨_, _, rfl, h, q⟩⟩
theorem uJ (h : dm σ v = some xs) : sY [v] σ Q = Q (.int xs.length) σ := propext ⟨fun ⟨_, _, e1, e2, q⟩ => by cases e1; rw [h] at e2; cases e2; exact q, fun q => ⟨_, _, rfl, h, q⟩⟩
end
end Ap
end
section
namespace Ap
open PySem PySem.Calls PyProof.Rows
noncomputable def Aa (c : Nat) (b : WS) (r : WH) (ρ : Loc) (σ : St) (Q : QS) (E : ES) : Bool → Prop := fun t => match t with
  | true => b ρ σ Q zc
  | false => r c ρ σ Q E
noncomputable def jJ (cs : List ClsI) (d : Nat) (b : WS) (r : WH) : WH := fun c ρ σ Q E => ∃ ci, cs[c]? = some ci ∧ Aa c b r ρ σ Q E (ci.sups.contains d)
section
variable {C : Cx} {T : Tabs} {P : Prg} {F : Calls} {d : Nat} {sc : Scope} {nms : List Str} {q : Bool}
inductive BothN (C : Cx) (T : Tabs) (P : Prg) (d : Nat) (sc : Scope) (nms : List Str) : WH → List ExceptHandler → Prop
  | nil : BothN C T P d sc nms yr []
  | cons {dd : Nat} {b : WS} {n : Str} {np pos : Pos} {b₀ : Stmt} {bs : List Stmt} {r : WH} {rest : List ExceptHandler} {cj : ClsI} : T.clsN[dd]? = some n → gl sc n = true → P.cls[dd]? = some cj → cj.init = Option.none →
      BothB C d sc nms true b (b₀ :: bs) → BothN C T P d sc nms r rest → BothN C T P d sc nms (jJ P.cls dd b r) (.ExceptHandler (some (.Name n np)) Option.none (b₀ :: bs) pos :: rest)
variable {A : Around} {env : Env} {V : Vo} {outer : List Env} {ρ : Loc} {σ : St} {ow : Nat → Option Nat} {s : Shared}
theorem tg (X : CxOk C T P) (hF : FEnv env nms V outer) (hs : env.scope = sc) (ha : AOk A V d) (hh : A.handled = Option.none) {σ₀ : St} {ow₀ : Nat → Option Nat} {s₀ : Shared} {Qa : QS} {Ea : ES} {Q : Flow → Shared → Prop} {E : Value → Shared → Prop} {e Tb : Addr} {c : Nat}
    (hb : C.base.StaysIn s₀.heap) (ks : KS C A false env V nms σ₀ ow₀ s₀ Qa Q) (kx : KXS C A false env V nms σ₀ ow₀ s₀ Ea E) (hxc : c ∈ C.xcs) {hs' : WH} {xs : List ExceptHandler} (hB : BothN C T P d sc nms hs' xs) :
    ∀ ρ σ ow s, hs' c ρ σ Qa Ea → SOk C A false env V nms ρ σ ow s → SStp (eu env) V.fs (Own σ₀ ow₀) (Own σ ow) s₀ s →
      ExO s.heap e (.ref (C.clsA c)) (some (Tb, .none)) → s₀.heap.get? e = Option.none ∧ ¬ Zs σ ow (zss V) e → s₀.heap.get? Tb = Option.none → ¬ Zs σ ow (zss V) Tb →
      wpAny (model C.prog C.w) A (handleBy (.ref e) env xs) Q E s := by
  induction hB with
  | nil =>
    intro ρ σ ow s w k st x n nT nZ
    exact ot X hF hs ha hh hb ks kx hxc .nil ρ σ ow s w k st x n nT nZ
  | @cons dd b nm np pos b₀ bs r rest cj h1 h2 h3 h4 h7 _ ih =>
    intro ρ σ ow s w k st xo n nT nZ
    obtain ⟨ci, hci, w⟩ := w
    obtain ⟨g1, g2, g3⟩ := ef h2
    have km := k.mark xo n.2
    refine wpAny_handleBy_cons (codeAny_handlers_test (gname X (by unfold Env.kindOf; rw [hs]; exact g1) g2 km.ok (X.clsN dd nm h1) ?_)) (by intro q; cases q)
    obtain ⟨oe, vs, a0, x1, x2, x3, x4, x5, x6, x7, x8⟩ := id xo
    refine X.exm c hxc dd (X.xcs dd cj h3 h4) ci hci _ _ _ s e oe vs k.ok.good.stays x1 x3 x4 x2 ?_
    cases hsup : ci.sups.contains dd with
    | false =>
      rw [hsup] at w
      exact ih ρ σ ow s w k st xo n nT nZ
    | true =>
      rw [hsup] at w
      have ham : AOk (A.mark (some (.ref e))) V d := ha.mark _
      refine codeAny_handlers_suite (dF hF hb st km n xo nT nZ fun s' st' k' x' => ?_)
      refine h7.snd _ env V outer hF hs ham _ σ ow s' _ _ _ _ w k' (fun fl af ρ₃ σ₃ ow₃ s₃ z st₃ k₃ rf => ?_) (fun e c ρ₃ σ₃ ow₃ s₃ z st₃ k₃ th => False.elim z)
      cases rf with
      | next => exact ks _ _ ρ₃ σ₃ ow₃ s₃ z (st'.trans st₃) (k₃.unmark hh) .next
      | ret r => exact ks _ _ ρ₃ σ₃ ow₃ s₃ z (st'.trans st₃) (k₃.unmark hh) (.ret r)
theorem BothS.tryN (X : CxOk C T P) {body : WS} {hs' : WH} {xs : List Stmt} {h₀ : ExceptHandler} {hrest : List ExceptHandler} {pos : Pos} (hB : BothB C d sc nms false body xs) (hH : BothN C T P d sc nms hs' (h₀ :: hrest)) :
    BothS C d sc nms false (wt body hs') (.Try xs (h₀ :: hrest) [] [] pos) where
  snd := fun A env V outer hF hs ha ρ σ ow s Qa Ea Q E w k ks kx => by
    refine wpAny_Try_except (hB.snd A env V outer hF hs ha ρ σ ow s _ _ _ _ w k (fun fl af ρ₃ σ₃ ow₃ s₃ z st₃ k₃ rf => ?_) (fun e c ρ₃ σ₃ ow₃ s₃ z st₃ k₃ th => ?_))
    · cases rf with
      | next => exact wpAny_execs_nil (ks _ _ ρ₃ σ₃ ow₃ s₃ z st₃ k₃ .next)
      | ret r => exact ks _ _ ρ₃ σ₃ ow₃ s₃ z st₃ k₃ (.ret r)
    · have t0 := th.1
      refine lE hF ha.frames k.ok.good.stays st₃ k₃ th fun s' Tb st' k' x nT nZ => ?_
      refine dF hF k.ok.good.stays st' k' ⟨t0.1, t0.2.1⟩ x nT nZ fun s'' st'' k'' x' => ?_
      exact tg X hF hs ha k.ok.hnd.none k.ok.good.stays ks kx t0.2.2 hH ρ₃ σ₃ ow₃ s'' z k'' st'' x' ⟨t0.1, t0.2.1⟩ nT nZ
end
section
variable {σ : St} {ρ : Loc} {QQ : QS} {EE : ES} {n : Nat} {A : WS} {H : WH}
theorem lF {cs : List ClsI} {ci : ClsI} {d : Nat} (h : cs[n]? = some ci) : jJ cs d A H n ρ σ QQ EE = Aa n A H ρ σ QQ EE (ci.sups.contains d) := propext ⟨fun ⟨_, e, q⟩ => by rw [h] at e; cases e; exact q, fun q => ⟨_, h, q⟩⟩
theorem nt : Aa n A H ρ σ QQ EE true = A ρ σ QQ zc := rfl
theorem qE : Aa n A H ρ σ QQ EE false = H n ρ σ QQ EE := rfl
end
end Ap
end
section
namespace Ap
open PySem PySem.Calls PyProof.Rows PySem.SeqAt PySem.SeqAt
noncomputable def rcI : AV → St → Prop := fun v σ => ∃ xs, v = .ilist xs
noncomputable def qY : OM := fun v vs σ Q => ∃ bs : List Bool, v = .ilist (bs.map .bool) ∧ vs = [.bool true] ∧ true ∈ bs ∧ Q (.int (bs.idxOf true : Nat)) σ
noncomputable def qN : OM := fun v vs σ Q => ∃ bs : List Bool, v = .ilist (bs.map .bool) ∧ vs = [.bool true] ∧ Q (.int (bs.count true : Nat)) σ
noncomputable def jz (kvs : List (Str × Str)) (x : Str) : Option Str := (kvs.find? fun e => e.1 == x).map (·.2)
noncomputable def CH (C : Cx) (n : Str) (kvs : List (Str × Str)) : Prop := ∃ a f o, C.mg n = some (.ref a) ∧ C.base.get? a = some o ∧ o.cls = .type "dict" ∧ C.base.MapOf (strKind C.prog C.w) a f ∧ ∀ x v, jz kvs x = some v → (∃ t, f x = some (.str v t)) ∧ PyData.strOk v = true
noncomputable def GVs (C : Cx) (gvs : List (Str × List (Str × Str))) : Prop := ∀ n kvs, (n, kvs) ∈ gvs → CH C n kvs
noncomputable def xS (kvs : List (Str × Str)) (Q : PQ) : PQ := fun v σ => ∃ x y, v = .str x ∧ jz kvs x = some y ∧ Q (.str y) σ
noncomputable def uZ (kvs : List (Str × Str)) (e : WE) : WE := fun ρ σ Q E => e ρ σ (xS kvs Q) E
section
variable {C : Cx} {T : Tabs} {P : Prg} {F : Calls} {d : Nat} {sc : Scope} {nms : List Str} {q : Bool} {gvs : List (Str × List (Str × Str))}
theorem qi {Z : Nat → Prop} {h : Heap} : ∀ {bs : List Bool} {vs : List Value}, VRs C Z h (bs.map .bool) vs → vs = bs.map Value.bool := by
  intro bs
  induction bs with
  | nil => intro vs r; cases r; rfl
  | cons b bs ih =>
    intro vs r
    cases r with | cons hd tl =>
    cases hd
    rw [ih tl]; rfl
noncomputable def wX : Value → Bool
  | .bool b => b
  | _ => false
theorem xd (bs : List Bool) : (bs.map Value.bool).countP wX = bs.count true := by
  induction bs with
  | nil => rfl
  | cons b bs ih =>
    rw [List.map_cons, List.countP_cons, ih, List.count_cons]
    cases b <;> rfl
theorem Bc {A : Around} {s : Shared} {bs : List Bool} : ∀ y, y ∈ (bs.map Value.bool).toArray → EqAt A s y (.bool true) (wX y) := fun y hy => by
  have hy' : y ∈ bs.map Value.bool := by simpa using hy
  obtain ⟨b, _, rfl⟩ := List.mem_map.mp hy'
  have := EqAt.bool_bool (A := A) (s := s) b true
  cases b <;> exact this
theorem wd : BmOk C true (Str.ofString "count") rcI qN := by
  refine ⟨⟨"list", "list.count", ⟨F.plainAttrs_list, F.slot_list_count, F.type_list_count⟩, fun envs σ ow s v u g r w => ?_, fun A envs σ ow s Qa Q E v u vs vals hq g k r rs w => ?_⟩⟩
  · obtain ⟨xs, rfl⟩ := w
    cases r with | ilist li off rr =>
    obtain ⟨_, n, e1⟩ := li
    exact ⟨⟨_, e1, rfl⟩, fun b hb => by cases hb; exact ⟨_, e1, rfl⟩⟩
  · obtain ⟨bs, rfl, rfl, w⟩ := w
    cases r with | ilist li off rr =>
    cases rs with | cons r1 r2 =>
    cases r2
    cases r1
    obtain ⟨_, n, e1⟩ := li
    have hv := qi rr
    subst hv
    refine call_meets F.slot_list_count ⟨_, e1, rfl⟩ F.entry_list_count (F.args_list_count_2 _ _) (list_countAt _ _ n Option.none #[] (.bool true) wX) ⟨e1, Bc, ?_⟩
    rw [show (bs.map Value.bool).toArray.toList = bs.map Value.bool from rfl, xd]
    exact k.val g _ w (.int _ _)
theorem wq : BmOk C true (Str.ofString "index") rcI qY := by
  refine ⟨⟨"list", "list.index", ⟨F.plainAttrs_list, F.slot_list_index, F.type_list_index⟩, fun envs σ ow s v u g r w => ?_, fun A envs σ ow s Qa Q E v u vs vals hq g k r rs w => ?_⟩⟩
  · obtain ⟨xs, rfl⟩ := w
    cases r with | ilist li off rr =>
    obtain ⟨_, n, e1⟩ := li
    exact ⟨⟨_, e1, rfl⟩, fun b hb => by cases hb; exact ⟨_, e1, rfl⟩⟩
  · obtain ⟨bs, rfl, rfl, hm, w⟩ := w
    cases r with | ilist li off rr =>
    cases rs with | cons r1 r2 =>
    cases r2
    cases r1
    obtain ⟨hz, n, e1⟩ := li
    have hv := qi rr
    subst hv
    have hj : bs.idxOf true < bs.length := List.idxOf_lt_length_iff.mpr hm
    have hl : (bs.map Value.bool).length = bs.length := List.length_map ..
    refine call_meets F.slot_list_index ⟨_, e1, rfl⟩ F.entry_list_index (F.args_list_index_2 _ _) (list_indexAt _ _ n Option.none #[] (.bool true) wX (bs.idxOf true) (by rw [List.size_toArray, hl]; exact hj) (by omega) ?_ ?_) ⟨e1, Bc, k.val g _ w (.int _ _)⟩
    · show wX ((bs.map Value.bool).toArray[bs.idxOf true]'_) = true
      simp only [List.getElem_toArray, List.getElem_map, List.getElem_idxOf]
      rfl
    · intro m hm' hlt
      simp only [List.getElem_toArray, List.getElem_map]
      have hml : m < bs.length := by rw [List.size_toArray, hl] at hm'; exact hm'
      have := List.not_of_lt_findIdx (p := (· == true)) (xs := bs) (i := m) hlt
      show bs[m] = false
      cases e : bs[m] with
      | false => rfl
      | true => rw [e] at this; cases this
theorem Both.idxG (X : CxOk C T P) (Z : GVs C gvs) {i : Nat} {kvs : List (Str × Str)} {e : WE} {l : Expr} {n : Str} {np pos : Pos} (he : Both C d sc nms q e l) (hm : gvs[i]? = some (n, kvs)) (h3 : gl sc n = true) (hp : ∀ o i, subscripted l false o i = operate [o, i] (getItem o i)) : Both C d sc nms q (uZ kvs e) (.Subscript (.Name n np) l pos) :=
  .of rfl fun A env envs ρ hs ha σ ow s Qa Ea Q E w ok kv kx => by
    obtain ⟨a, f, o, h1, h2, h4, h5, h6⟩ := Z n kvs (List.mem_of_getElem? hm)
    obtain ⟨g1, g2, g3⟩ := ef h3
    refine Subscript_ (gname X (by unfold Env.kindOf; rw [hs]; exact g1) g2 ok h1 ?_)
    refine he.ev A env envs ρ hs ha σ ow s _ Ea _ E w ok (fun v av σ' ow' s' z st g r => ?_) kx
    obtain ⟨x, y, rfl, hl, z⟩ := z
    cases r
    obtain ⟨⟨t, ht⟩, hok⟩ := h6 x y hl
    exact tail_any ⟨_, g.stays _ _ h2, h4⟩ slot_dict_getitem.lookup (wpAny_getItem_of (strKind_is _ _ _ _) (jA g.stays h5) ht ((kv.stp st).val g _ z (.str _ _ hok))) (hp _ _)
theorem GVs.nil : GVs C [] := fun _ _ m => nomatch m
theorem GVs.cons {n : Str} {kvs : List (Str × Str)} (h : CH C n kvs) (y : GVs C gvs) : GVs C ((n, kvs) :: gvs) := fun n' k' m => by
  rcases List.mem_cons.mp m with e | m
  · cases e; exact h
  · exact y n' k' m
theorem vY (x : Str) : ∀ (l : List DictEntry) (kvs : List (Str × Str)), l.map (fun e => (mW e.key, mW e.val)) = kvs.map (fun e => (some e.1, some e.2)) → ∀ v, jz kvs x = some v → ∃ e, l.find? (fun e => Value.isStrOf x e.key) = some e ∧ ∃ t, e.val = .str v t := by
  intro l
  induction l with
  | nil => intro kvs h v hv; cases kvs with | nil => cases hv | cons => cases h
  | cons e l ih =>
    intro kvs h v hv
    cases kvs with
    | nil => cases h
    | cons k kvs =>
      obtain ⟨hk, ht⟩ := List.cons.inj h
      obtain ⟨k1, k2⟩ := k
      obtain ⟨hs, key, val⟩ := e
      have e1 : mW key = some k1 := congrArg Prod.fst hk
      have e2 : mW val = some k2 := congrArg Prod.snd hk
      cases key <;> first | cases e1 | skip
      cases val <;> first | cases e2 | skip
      unfold jz at hv
      rw [List.find?_cons] at hv
      rw [List.find?_cons]
      cases hb : (k1 == x) with
      | true =>
        have hv' : (((match (k1 == x) with | true => some (k1, k2) | false => kvs.find? fun e => e.1 == x) : Option (Str × Str)).map (·.2)) = some v := hv
        rw [hb] at hv'
        have ev : k2 = v := Option.some.inj hv'
        subst ev
        exact ⟨_, (show (match (k1 == x) with | true => some _ | false => _) = some _ by rw [hb]), _, rfl⟩
      | false =>
        have hv' : (((match (k1 == x) with | true => some (k1, k2) | false => kvs.find? fun e => e.1 == x) : Option (Str × Str)).map (·.2)) = some v := hv
        rw [hb] at hv'
        obtain ⟨e, h1, h2⟩ := ih kvs ht v hv'
        refine ⟨e, ?_, h2⟩
        show (match (k1 == x) with | true => some _ | false => _) = _
        rw [hb]; exact h1
theorem xT {kvs : List (Str × Str)} (h : (kvs.all fun e => PyData.strOk e.2) = true) {x v : Str} (hv : jz kvs x = some v) : PyData.strOk v = true := by
  unfold jz at hv
  obtain ⟨p, hp, rfl⟩ := Option.map_eq_some_iff.mp hv
  exact List.all_eq_true.mp h p (List.mem_of_find?_eq_some hp)
theorem ET {K : PySem.W.Frag} (X : K.In C.base) {n : Str} {a m : Nat} {es : Array DictEntry} {kvs : List (Str × Str)} (hg : C.mg n = some (.ref a)) (hl : K.lookup a = some ⟨.type "dict", Option.none, .dict es m, #[]⟩) (hk : PySem.W.KeysLit C.w.params es.toList) (he : es.toList.map (fun e => (mW e.key, mW e.val)) = kvs.map (fun e => (some e.1, some e.2))) (hok : (kvs.all fun e => PyData.strOk e.2) = true) : CH C n kvs := by
  refine ⟨a, _, _, hg, X a _ hl, rfl, PySem.W.mapOf_K (prog := C.prog) X hl hk, fun x v hv => ⟨?_, xT hok hv⟩⟩
  obtain ⟨e, h1, t, h2⟩ := vY x es.toList kvs he v hv
  refine ⟨t, ?_⟩
  show findBy Value.isStrOf es x = _
  unfold findBy
  rw [← Array.find?_toList, h1, Option.map_some, h2]
end
section
variable {σ : St} {ρ : Loc} {Q : PQ} {E : PE} {K : Bool → Prop}
theorem CI {kvs : List (Str × Str)} {e : WE} : uZ kvs e ρ σ Q E = e ρ σ (xS kvs Q) E := rfl
theorem zI {kvs : List (Str × Str)} {x y : Str} (h : jz kvs x = some y) : xS kvs Q (.str x) σ = Q (.str y) σ := propext ⟨fun ⟨_, _, e1, e2, q⟩ => by cases e1; rw [h] at e2; cases e2; exact q, fun q => ⟨_, _, rfl, h, q⟩⟩
theorem sZ : ∀ (a b : List Bool), a.map AV.bool = b.map AV.bool → a = b := by
  intro a
  induction a with
  | nil => intro b h; cases b with | nil => rfl | cons => cases h
  | cons x a ih =>
    intro b h
    cases b with
    | nil => cases h
    | cons y b =>
      obtain ⟨h1, h2⟩ := List.cons.inj h
      rw [AV.bool.inj h1, ih b h2]
theorem xC {bs : List Bool} : qN (.ilist (bs.map .bool)) [.bool true] σ Q = Q (.int (bs.count true : Nat)) σ := propext ⟨fun ⟨bs', e, _, q⟩ => by
  have : bs' = bs := sZ _ _ (AV.ilist.inj e).symm
  rw [this] at q; exact q, fun q => ⟨_, rfl, rfl, q⟩⟩
theorem wO {bs : List Bool} (h : true ∈ bs) : qY (.ilist (bs.map .bool)) [.bool true] σ Q = Q (.int (bs.idxOf true : Nat)) σ := propext ⟨fun ⟨bs', e, _, _, q⟩ => by
  have : bs' = bs := sZ _ _ (AV.ilist.inj e).symm
  rw [this] at q; exact q, fun q => ⟨_, rfl, rfl, h, q⟩⟩
end
end Ap
end
section
namespace Ap
open PySem PySem.Calls PyProof.Rows
section
variable {C : Cx} {T : Tabs} {P : Prg} {F : Calls} {d : Nat} {sc : Scope} {nms : List Str} {q : Bool}
theorem hL {e : WE} {x : Expr} {es : WL} {xs : List Expr} (a : Both C d sc nms q e x) (b : BothL C d sc nms q es xs) (h : df x = true := by rfl) : BothL C d sc nms q (aa e es) (x :: xs) := .cons a h b
theorem hLn : BothL C d sc nms q ar [] := .nil
theorem hB {i is : WS} {x : Stmt} {xs : List Stmt} (h : BothS C d sc nms q i x) (hr : BothB C d sc nms q is xs) : BothB C d sc nms q (ad i is) (x :: xs) := .cons h hr
theorem hBn : BothB C d sc nms q ay [] := .nil
theorem hV {i : Nat} {n : Str} {pos : Pos} (h1 : nms[i]? = some n := by kernel_rfl) (h2 : (n == ("__debug__" : Str)) = false := by kernel_rfl) (h3 : (n == ("__classdict__" : Str)) = false := by kernel_rfl) : Both C d sc nms q (ac i) (.Name n pos) := .var h1 h2 h3
theorem hI {i : Int} {k : Nat} {pos : Pos} : Both C d sc nms q (vC (.int i)) (.Constant (.int i) k pos) := .int
theorem aK {o : Operator} {f : O2} {a b : WE} {x y : Expr} {pos : Pos} (hf : BinSnd C o f) (ha' : Both C d sc nms q a x) (hb : Both C d sc nms q b y) : Both C d sc nms q (vO2 f a b) (.BinOp x o y pos) := .bin hf ha' hb
theorem hS {x : Str} {k : Nat} {pos : Pos} (h : PyData.strOk x = true := by kernel_rfl) : Both C d sc nms q (vC (.str x)) (.Constant (.str x) k pos) := .str h
theorem hAt (X : CxOk C T P) {e : WE} {c f : Nat} {v : Expr} {n : Str} {pos : Pos} (he : Both C d sc nms q e v) (hb : fg v = true := by rfl) (hn : T.atN[f]? = some n := by kernel_rfl) (hm : ∀ ci, P.cls[c]? = some ci → ci.meths.lookup f = Option.none := by intro ci h; cases h; rfl) : Both C d sc nms q (vO1 (bq c f) e) (.Attribute v n pos) := .attr X he hb hn hm
theorem hIx {f : O2} {e i : WE} {v sl : Expr} {pos : Pos} (hf : iw C f) (he : Both C d sc nms q e v) (hi : Both C d sc nms q i sl) (hp : ∀ o i, subscripted sl false o i = operate [o, i] (getItem o i) := by exact fun _ _ => rfl) : Both C d sc nms q (vO2 f e i) (.Subscript v sl pos) := .idx hf he hi hp
theorem hTu {es : WL} {xs : List Expr} {k : Nat} {pos : Pos} (h : BothL C d sc nms q es xs) (hl : xs.length ≤ 1000 := by decide) : Both C d sc nms q (et es) (.Tuple xs k pos) := .tup h hl
theorem hLs {own : Bool} {es : WL} {xs : List Expr} {pos : Pos} (h : BothL C d sc nms q es xs) (hl : xs.length ≤ 1000 := by decide) : Both C d sc nms q (cU own es) (.List xs pos) := .lst h hl
theorem hCa (X : CxOk C T P) (hF : bT C P d F) {f : Nat} {n : Str} {es : WL} {xs : List Expr} {np pos : Pos} (h : BothL C d sc nms q es xs) (h1 : T.fnN[f]? = some n := by kernel_rfl) (h2 : n ≠ Str.empty := by decide +kernel) (h3 : gl sc n = true := by kernel_rfl) (hq : (!q || qOf P f) = true := by kernel_rfl) : Both C d sc nms q (aZ F f es) (.Call (.Name n np) xs [] pos) := .call X hF h h1 h2 h3 hq
theorem hBi (X : CxOk C T P) {q' : Bool} {f : ON} {n : Str} {es : WL} {xs : List Expr} {np pos : Pos} (hb : BiOk C q' n f) (h : BothL C d sc nms q es xs) (hn : n ∈ T.bltN := by decide +kernel) (h3 : gl sc n = true := by kernel_rfl) (hq : q' = false → q = false := by decide) : Both C d sc nms q (vON f es) (.Call (.Name n np) xs [] pos) := .bi X hb h hn h3 hq
theorem hMe (X : CxOk C T P) (hF : bT C P d F) {e : WE} {c m f : Nat} {ci : ClsI} {n : Str} {o : Expr} {es : WL} {xs : List Expr} {apos pos : Pos} (he : Both C d sc nms false e o) (h : BothL C d sc nms false es xs) (hc : P.cls[c]? = some ci := by rfl) (hf : ci.meths.lookup m = some f := by rfl) (hb : fg o = true := by rfl) (hn : T.atN[m]? = some n := by kernel_rfl) (hline : (apos.endLine == pos.line) = true := by kernel_rfl) (hlen : xs.length < 20 := by decide) (hlt : f < T.fnN.length := by decide) : Both C d sc nms false (fQ F c m f e es) (.Call (.Attribute o n apos) xs [] pos) := .meth X hF he h hb hn hline hlen hc hf hlt
theorem hAs {x : Nat} {n : Str} {e : WE} {v : Expr} {np pos : Pos} (he : Both C d sc nms q e v) (hc : fn v = true := by rfl) (hn : nms[x]? = some n := by kernel_rfl) : BothS C d sc nms q (aw x e) (.Assign [.Name n np] v pos) := .assign he hc hn
theorem hSa (X : CxOk C T P) {o e : WE} {c f : Nat} {ov v : Expr} {n : Str} {np pos : Pos} (ho : Both C d sc nms q o ov) (he : Both C d sc nms q e v) (hc : fn v = true := by rfl) (hn : T.atN[f]? = some n := by kernel_rfl) (hm : P.cls.all (fun ci => (ci.meths.lookup f).isNone) = true := by kernel_rfl) : BothS C d sc nms q (bB o c f e) (.Assign [.Attribute ov n np] v pos) := .setAttr X ho he hc hn hm
theorem hCm {a : WE} {l : Expr} {r : AV → WBl} {cs : List CmpOp} {xs : List Expr} {pos : Pos} (ha' : Both C d sc nms q a l) (h : BothC C d sc nms q r cs xs) (hm : lastMarks cs xs = false := by rfl) : Both C d sc nms q (bG a r) (.Compare l cs xs pos) := .cmp ha' h hm
theorem hEx {e : WE} {v : Expr} {pos : Pos} (he : Both C d sc nms q e v) (hc : fn v = true := by rfl) : BothS C d sc nms q (cM e) (.Expr v pos) := .expr he hc
end
end Ap
end
section
namespace Ap
open PySem
section
variable {ρ r : Loc} {σ : St} {Q : PQ} {E : PE} {v : AV} {a0 a1 a2 a3 a4 a5 a6 a7 a8 a9 a10 a11 a12 a13 a14 a15 a16 a17 : Option AV}
theorem aP : ac 0 (some v :: r) σ Q E = Q v σ := rfl
theorem br : ac 1 (a0 :: some v :: r) σ Q E = Q v σ := rfl
theorem cr : ac 2 (a0 :: a1 :: some v :: r) σ Q E = Q v σ := rfl
theorem dO : ac 3 (a0 :: a1 :: a2 :: some v :: r) σ Q E = Q v σ := rfl
theorem gq : ac 4 (a0 :: a1 :: a2 :: a3 :: some v :: r) σ Q E = Q v σ := rfl
theorem lD : ac 5 (a0 :: a1 :: a2 :: a3 :: a4 :: some v :: r) σ Q E = Q v σ := rfl
theorem yx : ac 6 (a0 :: a1 :: a2 :: a3 :: a4 :: a5 :: some v :: r) σ Q E = Q v σ := rfl
theorem qR : ac 7 (a0 :: a1 :: a2 :: a3 :: a4 :: a5 :: a6 :: some v :: r) σ Q E = Q v σ := rfl
theorem yA : ac 8 (a0 :: a1 :: a2 :: a3 :: a4 :: a5 :: a6 :: a7 :: some v :: r) σ Q E = Q v σ := rfl
theorem yz : ac 9 (a0 :: a1 :: a2 :: a3 :: a4 :: a5 :: a6 :: a7 :: a8 :: some v :: r) σ Q E = Q v σ := rfl
theorem yf : ac 10 (a0 :: a1 :: a2 :: a3 :: a4 :: a5 :: a6 :: a7 :: a8 :: a9 :: some v :: r) σ Q E = Q v σ := rfl
theorem yP : ac 11 (a0 :: a1 :: a2 :: a3 :: a4 :: a5 :: a6 :: a7 :: a8 :: a9 :: a10 :: some v :: r) σ Q E = Q v σ := rfl
theorem AP : ac 12 (a0 :: a1 :: a2 :: a3 :: a4 :: a5 :: a6 :: a7 :: a8 :: a9 :: a10 :: a11 :: some v :: r) σ Q E = Q v σ := rfl
theorem DL : ac 13 (a0 :: a1 :: a2 :: a3 :: a4 :: a5 :: a6 :: a7 :: a8 :: a9 :: a10 :: a11 :: a12 :: some v :: r) σ Q E = Q v σ := rfl
theorem AZ : ac 14 (a0 :: a1 :: a2 :: a3 :: a4 :: a5 :: a6 :: a7 :: a8 :: a9 :: a10 :: a11 :: a12 :: a13 :: some v :: r) σ Q E = Q v σ := rfl
theorem DN : ac 16 (a0 :: a1 :: a2 :: a3 :: a4 :: a5 :: a6 :: a7 :: a8 :: a9 :: a10 :: a11 :: a12 :: a13 :: a14 :: a15 :: some v :: r) σ Q E = Q v σ := rfl
theorem pP : cY (a0 :: a1 :: r) 1 v = a0 :: some v :: r := rfl
theorem lW : cY (a0 :: a1 :: a2 :: r) 2 v = a0 :: a1 :: some v :: r := rfl
theorem mZ : cY (a0 :: a1 :: a2 :: a3 :: r) 3 v = a0 :: a1 :: a2 :: some v :: r := rfl
theorem nD : cY (a0 :: a1 :: a2 :: a3 :: a4 :: r) 4 v = a0 :: a1 :: a2 :: a3 :: some v :: r := rfl
theorem oq : cY (a0 :: a1 :: a2 :: a3 :: a4 :: a5 :: r) 5 v = a0 :: a1 :: a2 :: a3 :: a4 :: some v :: r := rfl
theorem zm : cY (a0 :: a1 :: a2 :: a3 :: a4 :: a5 :: a6 :: r) 6 v = a0 :: a1 :: a2 :: a3 :: a4 :: a5 :: some v :: r := rfl
theorem CQ : cY (a0 :: a1 :: a2 :: a3 :: a4 :: a5 :: a6 :: a7 :: r) 7 v = a0 :: a1 :: a2 :: a3 :: a4 :: a5 :: a6 :: some v :: r := rfl
theorem AE : cY (a0 :: a1 :: a2 :: a3 :: a4 :: a5 :: a6 :: a7 :: a8 :: r) 8 v = a0 :: a1 :: a2 :: a3 :: a4 :: a5 :: a6 :: a7 :: some v :: r := rfl
theorem Em : cY (a0 :: a1 :: a2 :: a3 :: a4 :: a5 :: a6 :: a7 :: a8 :: a9 :: r) 9 v = a0 :: a1 :: a2 :: a3 :: a4 :: a5 :: a6 :: a7 :: a8 :: some v :: r := rfl
theorem Eu : cY (a0 :: a1 :: a2 :: a3 :: a4 :: a5 :: a6 :: a7 :: a8 :: a9 :: a10 :: r) 10 v = a0 :: a1 :: a2 :: a3 :: a4 :: a5 :: a6 :: a7 :: a8 :: a9 :: some v :: r := rfl
theorem Df : cY (a0 :: a1 :: a2 :: a3 :: a4 :: a5 :: a6 :: a7 :: a8 :: a9 :: a10 :: a11 :: r) 11 v = a0 :: a1 :: a2 :: a3 :: a4 :: a5 :: a6 :: a7 :: a8 :: a9 :: a10 :: some v :: r := rfl
theorem EQ : cY (a0 :: a1 :: a2 :: a3 :: a4 :: a5 :: a6 :: a7 :: a8 :: a9 :: a10 :: a11 :: a12 :: r) 12 v = a0 :: a1 :: a2 :: a3 :: a4 :: a5 :: a6 :: a7 :: a8 :: a9 :: a10 :: a11 :: some v :: r := rfl
theorem DC : cY (a0 :: a1 :: a2 :: a3 :: a4 :: a5 :: a6 :: a7 :: a8 :: a9 :: a10 :: a11 :: a12 :: a13 :: r) 13 v = a0 :: a1 :: a2 :: a3 :: a4 :: a5 :: a6 :: a7 :: a8 :: a9 :: a10 :: a11 :: a12 :: some v :: r := rfl
theorem EC : cY (a0 :: a1 :: a2 :: a3 :: a4 :: a5 :: a6 :: a7 :: a8 :: a9 :: a10 :: a11 :: a12 :: a13 :: a14 :: r) 14 v = a0 :: a1 :: a2 :: a3 :: a4 :: a5 :: a6 :: a7 :: a8 :: a9 :: a10 :: a11 :: a12 :: a13 :: some v :: r := rfl
theorem Ep : cY (a0 :: a1 :: a2 :: a3 :: a4 :: a5 :: a6 :: a7 :: a8 :: a9 :: a10 :: a11 :: a12 :: a13 :: a14 :: a15 :: r) 15 v = a0 :: a1 :: a2 :: a3 :: a4 :: a5 :: a6 :: a7 :: a8 :: a9 :: a10 :: a11 :: a12 :: a13 :: a14 :: some v :: r := rfl
theorem Eg : cY (a0 :: a1 :: a2 :: a3 :: a4 :: a5 :: a6 :: a7 :: a8 :: a9 :: a10 :: a11 :: a12 :: a13 :: a14 :: a15 :: a16 :: r) 16 v = a0 :: a1 :: a2 :: a3 :: a4 :: a5 :: a6 :: a7 :: a8 :: a9 :: a10 :: a11 :: a12 :: a13 :: a14 :: a15 :: some v :: r := rfl
end
noncomputable def wNo : WS := fun _ _ _ _ => False
theorem BothB.no {C : Cx} {d : Nat} {sc : Scope} {nms : List Str} {q : Bool} {x : List Stmt} : BothB C d sc nms q wNo x := ⟨fun _ _ _ _ _ _ _ _ _ _ _ _ _ _ _ w => False.elim w⟩
end Ap
end
section
namespace Ap.L13
open PySem
noncomputable def clss : List ClsI := [⟨Option.none, [], [0]⟩, ⟨Option.none, [], [1, 0]⟩, ⟨Option.none, [], [2, 0]⟩, ⟨Option.none, [], [3, 0]⟩, ⟨Option.none, [], [4, 0]⟩, ⟨Option.none, [], [5, 0]⟩, ⟨Option.none, [], [6, 0]⟩, ⟨Option.none, [], [7, 0]⟩, ⟨some 6, [(25, 7), (22, 8), (19, 9), (23, 10)], []⟩, ⟨some 11, [(24, 12), (21, 13), (17, 14)], []⟩, ⟨some 15, [(26, 16), (33, 17), (18, 18), (30, 19)], []⟩, ⟨some 22, [(20, 23), (32, 24), (29, 25), (31, 26), (27, 27), (34, 28), (28, 29)], []⟩]
noncomputable def w0 (F : Calls) : WS := wNo
noncomputable def w1 (F : Calls) : WS := (ad (bP (vBl (aV true (vO1 (ng .int) (ac 0)) (aV true (vO1 eX (vO1 (ng .bool) (ac 0))) (aV true (bG (ac 1) (aS cLe (ac 0) (aS cLe (ac 2) bF))) (cV true)))))) ay)
noncomputable def w2 (F : Calls) : WS := (ad (bY (vBl (aV false (vO1 eX (vO1 (ng .tuple) (ac 0))) (aV false (bG (vON sd (aa (ac 0) ar)) (aS cNe (vC (.int 4)) bF)) (aV false (vO1 eX (aZ F 1 (aa (vO2 bO (ac 0) (vC (.int 0))) (aa (vC (.int 1)) (aa (vC (.int 20)) ar))))) (cV false))))) (ad (bP (vC (.bool false))) ay) ay) (ad (bY (vO1 eX (aZ F 1 (aa (vO2 bO (ac 0) (vC (.int 1))) (aa (vC (.int 1)) (aa (vO2 bO (ac 0) (vC (.int 0))) ar))))) (ad (bP (vC (.bool false))) ay) ay) (ad (bP (vBl (aV true (aZ F 1 (aa (vO2 bO (ac 0) (vC (.int 2))) (aa (vC (.int 0)) (aa (vC (.int 20)) ar)))) (aV true (aZ F 1 (aa (vO2 bO (ac 0) (vC (.int 3))) (aa (vC (.int 0)) (aa (vC (.int 20)) ar)))) (cV true))))) ay)))
noncomputable def w3 (F : Calls) : WS := (ad (bY (vO1 eX (aZ F 2 (aa (ac 0) ar))) (ad (dW 1) ay) ay) ay)
noncomputable def w4 (F : Calls) : WS := (ad (bY (vO1 eX (aZ F 1 (aa (ac 0) (aa (vC (.int 1)) (aa (vC (.int 200)) ar))))) (ad (dW 2) ay) ay) ay)
noncomputable def w5 (F : Calls) : WS := (ad (bY (vBl (aV false (vO1 eX (vO1 sJ (ac 0))) (aV false (bG (vON sY (aa (ac 0) ar)) (aS cGt (vC (.int 400)) bF)) (cV false)))) (ad (dW 3) ay) ay) (ad (yg 1 (ac 0) (ad (bY (vBl (aV false (vO1 eX (vO1 (ng .str) (ac 1))) (aV false (bG (vON lQ (aa (ac 1) ar)) (aS cGt (vC (.int 40)) bF)) (cV false)))) (ad (dW 3) ay) ay) ay)) ay))
noncomputable def w6 (F : Calls) : WS := (ad (bB (ac 0) 8 0 (ac 1)) (ad (bB (ac 0) 8 1 (cU true ar)) ay))
noncomputable def w7 (F : Calls) : WS := (ad (bP (vON jK (aa (vC (.int 0)) (aa (vO2 dZ (vO2 dZ (vON dG (aa (vO1 (bq 8 1) (ac 0)) ar)) (vC (.int 1))) (vO1 (bq 8 0) (ac 0))) ar)))) ay)
noncomputable def w8 (F : Calls) : WS := (ad (cM (vBm rcL cb (vO1 (bq 8 1) (ac 0)) (aa (ac 1) ar))) (ad (bP (vO2 dZ (vON dG (aa (vO1 (bq 8 1) (ac 0)) ar)) (vC (.int 1)))) ay))
noncomputable def w9 (F : Calls) : WS := wNo
noncomputable def w10 (F : Calls) : WS := (ad (bY (vO1 eX (aZ F 1 (aa (ac 1) (aa (fQ F 8 25 7 (ac 0) ar) (aa (vO2 dZ (vON dG (aa (vO1 (bq 8 1) (ac 0)) ar)) (vC (.int 1))) ar))))) (ad (dW 6) ay) ay) (ad (bP (vO2 pU (vO1 (bq 8 1) (ac 0)) (ac 1))) ay))
noncomputable def w11 (F : Calls) : WS := (ad (bB (ac 0) 9 2 (ac 1)) (ad (bB (ac 0) 9 3 (ac 2)) (ad (bB (ac 0) 9 4 (ac 3)) (ad (bB (ac 0) 9 5 (vC (.int 0))) (ad (bB (ac 0) 9 6 (vC (.int 0))) ay)))))
noncomputable def w12 (F : Calls) : WS := (ad (bP (et (aa (vO1 (bq 9 5) (ac 0)) (aa (vO1 (bq 9 6) (ac 0)) ar)))) ay)
noncomputable def w13 (F : Calls) : WS := (ad (aw 2 (vON vB (aa (vO1 (bq 9 6) (ac 0)) (aa (vO2 dZ (vO2 bZ (vO1 (bq 9 5) (ac 0)) (vO1 (bq 9 2) (ac 0))) (vC (.int 1))) (aa (vO2 dZ (vO1 (bq 9 4) (ac 0)) (vC (.int 1))) ar))))) (ad (bY (vO1 eX (aZ F 1 (aa (ac 1) (aa (vO1 (bq 9 5) (ac 0)) (aa (ac 2) ar))))) (ad (dW 5) ay) ay) (ad (bY (bG (ac 1) (aS cEq (vO1 (bq 9 6) (ac 0)) bF)) (ad (bB (ac 0) 9 6 (vO2 bZ (ac 1) (vC (.int 1)))) ay) ay) (ad (bP (vO2 bK (ac 1) (vO1 (bq 9 3) (ac 0)))) ay))))
noncomputable def w14 (F : Calls) : WS := (ad (aw 2 (vO2 bK (vO2 dZ (ac 1) (vO1 (bq 9 5) (ac 0))) (vO1 (bq 9 3) (ac 0)))) (ad (bY (bG (vO2 bZ (vO1 (bq 9 5) (ac 0)) (ac 2)) (aS cLe (vO1 (bq 9 6) (ac 0)) bF)) (ad (bB (ac 0) 9 5 (vO2 bZ (vO1 (bq 9 5) (ac 0)) (ac 2))) ay) ay) ay))
noncomputable def w15 (F : Calls) : WS := (ad (bB (ac 0) 10 7 (ac 1)) (ad (bB (ac 0) 10 3 (ac 2)) (ad (bB (ac 0) 10 8 (vC (.int 0))) (ad (bB (ac 0) 10 9 (cU true ar)) (ad (bB (ac 0) 10 10 vH) ay)))))
noncomputable def w16 (F : Calls) : WS := (ad (aw 3 (vO2 bK (vO2 dZ (ac 1) (vO1 (bq 10 8) (ac 0))) (vO1 (bq 10 3) (ac 0)))) (ad (bY (vBl (aV true (bG (ac 3) (aS cLt (vO1 (bq 10 7) (ac 0)) bF)) (aV true (bG (vO2 bZ (vO1 (bq 10 8) (ac 0)) (ac 3)) (aS vv (vO1 (bq 10 10) (ac 0)) bF)) (cV true)))) (ad (ve (vO1 (bq 10 10) (ac 0)) (vO2 bZ (vO1 (bq 10 8) (ac 0)) (ac 3)) (ac 2)) ay) ay) (ad (sG (bG (vO1 (bq 10 8) (ac 0)) (aS wC (vO1 (bq 10 10) (ac 0)) bF)) (ad (cM (vBm rcL cb (vO1 (bq 10 9) (ac 0)) (aa (vBm rcD sR (vO1 (bq 10 10) (ac 0)) (aa (vO1 (bq 10 8) (ac 0)) ar)) ar))) (ad (bB (ac 0) 10 8 (vO2 bZ (vO1 (bq 10 8) (ac 0)) (vC (.int 1)))) ay))) (ad (bP (vO2 bK (vO1 (bq 10 8) (ac 0)) (vO1 (bq 10 3) (ac 0)))) ay))))
noncomputable def w17 (F : Calls) : WS := wNo
noncomputable def w18 (F : Calls) : WS := wNo
noncomputable def w19 (F : Calls) : WS := wNo
noncomputable def w20 (F : Calls) : WS := (ad (bY (vBl (aV false (vO1 eX (vO1 (ng .tuple) (ac 0))) (aV false (bG (vON sd (aa (ac 0) ar)) (aS cNe (vC (.int 2)) bF)) (aV false (vO1 eX (vO1 (ng .str) (vO2 bO (ac 0) (vC (.int 0))))) (cV false))))) (ad (bP (vC (.bool false))) ay) ay) (ad (bP (vBl (aV true (bG (vO2 bO (ac 0) (vC (.int 0))) (aS xr (vC (.tup [(.str (Str.ofString "send")), (.str (Str.ofString "hand")), (.str (Str.ofString "tell"))])) bF)) (aV true (aZ F 1 (aa (vO2 bO (ac 0) (vC (.int 1))) (aa (vC (.int 0)) (aa (vC (.int 999999)) ar)))) (cV true))))) ay))
noncomputable def w21 (F : Calls) : WS := (ad (bY (vO1 eX (aZ F 20 (aa (ac 0) ar))) (ad (dW 4) ay) ay) ay)
noncomputable def w22 (F : Calls) : WS := (ad (cM (aZ F 3 (aa (ac 1) ar))) (ad (cM (aZ F 4 (aa (ac 2) ar))) (ad (cM (aZ F 5 (aa (ac 3) ar))) (ad (bB (ac 0) 11 11 (ac 1)) (ad (bB (ac 0) 11 3 (ac 2)) (ad (bB (ac 0) 11 12 (vON (oList false) (aa (ac 3) ar))) (ad (bB (ac 0) 11 13 (tG F 9 11 (aa (vO2 bO (ac 1) (vC (.int 0))) (aa (ac 2) (aa (vON sY (aa (ac 3) ar)) ar))))) (ad (bB (ac 0) 11 14 (tG F 10 15 (aa (vO2 bO (ac 1) (vC (.int 1))) (aa (ac 2) ar)))) (ad (bB (ac 0) 11 15 (tG F 8 6 (aa (vO2 bO (ac 1) (vC (.int 2))) ar))) (ad (bB (ac 0) 11 16 (tG F 8 6 (aa (vO2 bO (ac 1) (vC (.int 3))) ar))) ay))))))))))
noncomputable def w23 (F : Calls) : WS := (ad (cM (aZ F 21 (aa (ac 1) ar))) (ad (bY (bG (vO2 bO (ac 1) (vC (.int 0))) (aS cEq (vC (.str (Str.ofString "send"))) bF)) (ad (aw 2 (fQ F 9 21 13 (vO1 (bq 11 13) (ac 0)) (aa (vO2 bO (ac 1) (vC (.int 1))) ar))) (ad (bP (fQ F 8 22 8 (vO1 (bq 11 15) (ac 0)) (aa (et (aa (ac 2) (aa (vO2 di (vO1 (bq 11 12) (ac 0)) (vO2 bO (ac 1) (vC (.int 1)))) ar))) ar))) ay)) ay) (ad (bY (bG (vO2 bO (ac 1) (vC (.int 0))) (aS cEq (vC (.str (Str.ofString "hand"))) bF)) (ad (qD [2, 3] (fQ F 8 23 10 (vO1 (bq 11 15) (ac 0)) (aa (vO2 bO (ac 1) (vC (.int 1))) ar))) (ad (bP (fQ F 8 22 8 (vO1 (bq 11 16) (ac 0)) (aa (fQ F 10 26 16 (vO1 (bq 11 14) (ac 0)) (aa (ac 2) (aa (ac 3) ar))) ar))) ay)) ay) (ad (cM (fQ F 9 17 14 (vO1 (bq 11 13) (ac 0)) (aa (fQ F 8 23 10 (vO1 (bq 11 16) (ac 0)) (aa (vO2 bO (ac 1) (vC (.int 1))) ar)) ar))) (ad (bP (vO2 bO (fQ F 9 24 12 (vO1 (bq 11 13) (ac 0)) ar) (vC (.int 0)))) ay)))))
noncomputable def w24 (F : Calls) : WS := wNo
noncomputable def w25 (F : Calls) : WS := wNo
noncomputable def w26 (F : Calls) : WS := wNo
noncomputable def w27 (F : Calls) : WS := wNo
noncomputable def w28 (F : Calls) : WS := wNo
noncomputable def w29 (F : Calls) : WS := wNo
noncomputable def w30 (F : Calls) : WS := (ad (bY (vBl (aV false (vO1 eX (bG (vC (.int 1)) (aS cLe (vON lQ (aa (ac 0) ar)) (aS cLe (vC (.int 6)) bF)))) (aV false (vBl (aV true (bG (vO2 tW (ac 0) (vC (.int 0))) (aS cEq (vC (.str (Str.ofString "0"))) bF)) (aV true (bG (ac 0) (aS cNe (vC (.str (Str.ofString "0"))) bF)) (cV true)))) (cV false)))) (ad (dW 7) ay) ay) (ad (qf 1 (uc (ac 0)) (ad (bY (bG (ac 1) (aS vp (vC (.str (Str.ofString "0123456789"))) bF)) (ad (dW 7) ay) ay) ay)) (ad (bP (vON vw (aa (ac 0) ar))) ay)))
noncomputable def w31 (F : Calls) : WS := (ad (bY (vO1 eX (vO1 (ng .str) (ac 0))) (ad (dW 7) ay) ay) (ad (qD [1, 2, 3] (vBm rcS yO (ac 0) (aa (vC (.str (Str.ofString " "))) ar))) (ad (bY (vBl (aV false (xi [(Str.ofString "send"), (Str.ofString "hand"), (Str.ofString "tell")] (ac 1)) (aV false (bG (ac 2) (aS cEq (vC (.str (Str.ofString ""))) bF)) (cV false)))) (ad (dW 7) ay) ay) (ad (aw 4 (et (aa (ac 1) (aa (aZ F 30 (aa (ac 3) ar)) ar)))) (ad (bY (vO1 eX (aZ F 20 (aa (ac 4) ar))) (ad (dW 7) ay) ay) (ad (bP (ac 4)) ay))))))
noncomputable def w32 (F : Calls) : WS := (ad (wt (ad (aw 2 (aZ F 31 (aa (ac 1) ar))) (ad (aw 3 (fQ F 11 20 23 (ac 0) (aa (ac 2) ar))) ay)) (jJ clss 7 (ad (bP (vC (.str (Str.ofString "no line")))) ay) (jJ clss 5 (ad (bP (vC (.str (Str.ofString "not now")))) ay) (jJ clss 6 (ad (bP (vC (.str (Str.ofString "no letter")))) ay) yr)))) (ad (bP (vO2 fN (vO2 fN (uZ [((Str.ofString "send"), (Str.ofString "letter")), ((Str.ofString "hand"), (Str.ofString "answer")), ((Str.ofString "tell"), (Str.ofString "base"))] (vO2 bO (ac 2) (vC (.int 0)))) (vC (.str (Str.ofString " ")))) (vON kf (aa (ac 3) ar)))) ay))
noncomputable def w33 (F : Calls) : WS := (ad (aw 4 (tG F 11 22 (aa (ac 0) (aa (ac 1) (aa (ac 2) ar))))) (ad (bP (mX true (yF (ac 3)) (tb1 5) [4] (aZ F 32 (aa (ac 4) (aa (ac 5) ar))))) ay))
noncomputable def w34 (F : Calls) : WS := (ad (bY (bG (ac 1) (aS cLt (vON xj (aa (ac 0) ar)) bF)) (ad (bP (vO2 di (ac 0) (ac 1))) ay) ay) (ad (bP (vC (.int 0))) ay))
noncomputable def w35 (F : Calls) : WS := (ad (bP (vO2 bK (vO2 bZ (vO2 we (ac 0) (vC (.int 48271))) (vO2 we (vO2 we (vC (.int 7919)) (vO2 bZ (ac 1) (vC (.int 1)))) (vO2 bZ (ac 1) (vC (.int 3))))) (vC (.int 2147483647)))) ay)
noncomputable def w36 (F : Calls) : WS := (ad (aw 1 (aZ F 35 (aa (aZ F 34 (aa (ac 0) (aa (vC (.int 0)) ar))) (aa (vC (.int 0)) ar)))) (ad (aw 2 (aZ F 35 (aa (aZ F 34 (aa (ac 0) (aa (vC (.int 1)) ar))) (aa (vC (.int 1)) ar)))) (ad (aw 3 (vO2 bZ (vC (.int 1)) (vO2 bK (ac 1) (vC (.int 5))))) (ad (aw 4 (vO2 bK (ac 2) (vC (.int 4)))) (ad (aw 5 (vO2 bK (vO2 bC (ac 2) (vC (.int 4))) (vC (.int 4)))) (ad (bY (bG (vO2 bK (vO2 bC (ac 1) (vC (.int 5))) (vC (.int 6))) (aS cEq (vC (.int 1)) bF)) (ad (aw 3 (vO2 bZ (vC (.int 1)) (vO2 bK (vO2 bC (ac 1) (vC (.int 30))) (vC (.int 20))))) ay) ay) (ad (bY (bG (vO2 bK (vO2 bC (ac 2) (vC (.int 16))) (vC (.int 6))) (aS zQ (et (aa (vC (.int 1)) (aa (vC (.int 2)) ar))) bF)) (ad (aw 4 (vO2 bK (vO2 bC (ac 2) (vC (.int 96))) (vC (.int 21)))) ay) ay) (ad (bY (bG (vO2 bK (vO2 bC (ac 2) (vC (.int 16))) (vC (.int 6))) (aS cEq (vC (.int 2)) bF)) (ad (aw 5 (vO2 bK (vO2 bC (ac 2) (vC (.int 2016))) (vC (.int 21)))) ay) ay) (ad (bY (bG (vO2 bK (vO2 bC (ac 2) (vC (.int 16))) (vC (.int 6))) (aS cGt (vC (.int 3)) bF)) (ad (aw 5 (vO2 bK (vO2 bC (ac 2) (vC (.int 96))) (vO2 di (cU false (aa (vC (.int 21)) (aa (vC (.int 9)) ar))) (vO2 bK (vO2 bC (ac 2) (vC (.int 16))) (vC (.int 2)))))) ay) ay) (ad (bP (et (aa (ac 3) (aa (vO2 bZ (vC (.int 1)) (vO2 bK (vO2 bC (ac 1) (vC (.int 600))) (ac 3))) (aa (ac 4) (aa (ac 5) ar)))))) ay))))))))))
noncomputable def w37 (F : Calls) : WS := (ad (aw 3 (vC (.str (Str.ofString " !\"#$&'()*+,-./:;<=>?@ABCDEFGHIJKLMNOPQRSTUVWXYZ[\\]^_abcdefghijklmnopqrstuvwxyz{|}~")))) (ad (aw 4 (aZ F 35 (aa (ac 0) (aa (vC (.int 5)) ar)))) (ad (aw 5 (vBm rcS Bo (vC (.str (Str.ofString ""))) (aa (mX false (kC (aa (vO2 bK (vO2 bC (ac 4) (vC (.int 77))) (vC (.int 39))) ar)) (tb1 8) [3, 4] (vO2 AM (ac 3) (vO2 bK (vO2 bZ (vO2 bC (ac 4) (vC (.int 7))) (vO2 we (ac 8) (vO2 bZ (vC (.int 1)) (vO2 bK (ac 4) (vC (.int 11)))))) (vON lQ (aa (ac 3) ar))))) ar))) (ad (aw 6 (vO2 bK (vO2 bC (ac 4) (vC (.int 5000))) (vO2 bZ (vON lQ (aa (ac 5) ar)) (vC (.int 1))))) (ad (aw 7 (mX false (kC (aa (ac 1) ar)) (tb1 8) [2, 5, 6] (vO2 fN (vO2 fN (vO2 uq (ac 5) (ac 6)) (vON kf (aa (vO2 bK (ac 8) (ac 2)) ar))) (vO2 uw (ac 5) (ac 6))))) (ad (bY (bG (vO2 bK (vO2 bC (ac 4) (vC (.int 200))) (vC (.int 4))) (aS cEq (vC (.int 1)) bF)) (ad (aw 7 (mX false (xB (aa (ac 7) ar)) (tb2 8 9) [2, 4] (vO2 di (cU false (aa (ac 9) (aa (vC (.str (Str.ofString ""))) ar))) (vON vE (aa (bG (vO2 bK (ac 8) (ac 2)) (aS cEq (vO2 bK (vO2 bC (ac 4) (vC (.int 800))) (ac 2)) bF)) ar))))) ay) ay) (ad (bP (ac 7)) ay)))))))
noncomputable def w38 (F : Calls) : WS := (ad (aw 3 (pA [(Str.ofString "bounds"), (Str.ofString "ring"), (Str.ofString "texts"), (Str.ofString "base"), (Str.ofString "top"), (Str.ofString "out"), (Str.ofString "kept")] (aa (ac 0) (aa (ac 1) (aa (ac 2) (aa (vC (.int 0)) (aa (vC (.int 0)) (aa (cU true ar) (aa vH ar))))))))) (ad (pV (ac 3) (vC (.str (Str.ofString "letters"))) (cU true ar)) (ad (pV (ac 3) (vC (.str (Str.ofString "answers"))) (cU true ar)) (ad (bP (ac 3)) ay))))
noncomputable def w39 (F : Calls) : WS := (ad (bY (vBl (aV false (bG (ac 1) (aS cLt (vO2 aJ (ac 0) (vC (.str (Str.ofString "base")))) bF)) (aV false (bG (ac 1) (aS cGt (vO2 aJ (ac 0) (vC (.str (Str.ofString "top")))) bF)) (aV false (bG (ac 1) (aS cGe (vO2 bZ (vO2 aJ (ac 0) (vC (.str (Str.ofString "base")))) (vO2 bO (vO2 aJ (ac 0) (vC (.str (Str.ofString "bounds")))) (vC (.int 0)))) bF)) (aV false (bG (ac 1) (aS cGe (vON xj (aa (vO2 aJ (ac 0) (vC (.str (Str.ofString "texts")))) ar)) bF)) (cV false)))))) (ad (bP (et (aa (vC (.str (Str.ofString "refused"))) (aa (vC (.str (Str.ofString "now"))) ar)))) ay) ay) (ad (pV (ac 0) (vC (.str (Str.ofString "top"))) (vON jK (aa (vO2 aJ (ac 0) (vC (.str (Str.ofString "top")))) (aa (vO2 bZ (ac 1) (vC (.int 1))) ar)))) (ad (cM (vBm rcL cb (vO2 aJ (ac 0) (vC (.str (Str.ofString "letters")))) (aa (et (aa (vO2 bK (ac 1) (vO2 aJ (ac 0) (vC (.str (Str.ofString "ring"))))) (aa (vO2 di (vO2 aJ (ac 0) (vC (.str (Str.ofString "texts")))) (ac 1)) ar))) ar))) (ad (bP (et (aa (vC (.str (Str.ofString "told"))) (aa (vO2 dZ (vON dG (aa (vO2 aJ (ac 0) (vC (.str (Str.ofString "letters")))) ar)) (vC (.int 1))) ar)))) ay))))
noncomputable def w40 (F : Calls) : WS := (ad (bP (vBl (aV true (bG (ac 1) (aS cLt (vON dG (aa (ac 0) ar)) bF)) (aV true (bG (vO2 dZ (vO2 dZ (vON dG (aa (ac 0) ar)) (vC (.int 1))) (ac 1)) (aS cLe (ac 2) bF)) (cV true))))) ay)
noncomputable def w41 (F : Calls) : WS := (ad (bY (vO1 eX (aZ F 40 (aa (vO2 aJ (ac 0) (vC (.str (Str.ofString "letters")))) (aa (ac 1) (aa (vO2 bO (vO2 aJ (ac 0) (vC (.str (Str.ofString "bounds")))) (vC (.int 2))) ar))))) (ad (bP (et (aa (vC (.str (Str.ofString "refused"))) (aa (vC (.str (Str.ofString "letter"))) ar)))) ay) ay) (ad (qD [2, 3] (vO2 pU (vO2 aJ (ac 0) (vC (.str (Str.ofString "letters")))) (ac 1))) (ad (aw 4 (vON dG (aa (vO2 aJ (ac 0) (vC (.str (Str.ofString "out")))) ar))) (ad (qf 5 (kC (aa (vO2 bO (vO2 aJ (ac 0) (vC (.str (Str.ofString "bounds")))) (vC (.int 1))) ar)) (ad (bY (vBl (aV true (bG (ac 5) (aS cLt (vO2 aJ (ac 0) (vC (.str (Str.ofString "ring")))) bF)) (aV true (bG (vO2 bK (vO2 dZ (vO2 bZ (ac 4) (ac 5)) (ac 2)) (vO2 aJ (ac 0) (vC (.str (Str.ofString "ring"))))) (aS cEq (vC (.int 0)) bF)) (aV true (bG (vO2 bZ (ac 4) (ac 5)) (aS vv (vO2 aJ (ac 0) (vC (.str (Str.ofString "kept")))) bF)) (cV true))))) (ad (ve (vO2 aJ (ac 0) (vC (.str (Str.ofString "kept")))) (vO2 bZ (ac 4) (ac 5)) (ac 3)) ay) ay) ay)) (ad (sG (bG (vON dG (aa (vO2 aJ (ac 0) (vC (.str (Str.ofString "out")))) ar)) (aS wC (vO2 aJ (ac 0) (vC (.str (Str.ofString "kept")))) bF)) (ad (cM (vBm rcL cb (vO2 aJ (ac 0) (vC (.str (Str.ofString "out")))) (aa (vBm rcD sR (vO2 aJ (ac 0) (vC (.str (Str.ofString "kept")))) (aa (vON dG (aa (vO2 aJ (ac 0) (vC (.str (Str.ofString "out")))) ar)) ar)) ar))) ay)) (ad (cM (vBm rcL cb (vO2 aJ (ac 0) (vC (.str (Str.ofString "answers")))) (aa (vO2 bK (vON dG (aa (vO2 aJ (ac 0) (vC (.str (Str.ofString "out")))) ar)) (vO2 aJ (ac 0) (vC (.str (Str.ofString "ring"))))) ar))) (ad (bP (et (aa (vC (.str (Str.ofString "told"))) (aa (vO2 dZ (vON dG (aa (vO2 aJ (ac 0) (vC (.str (Str.ofString "answers")))) ar)) (vC (.int 1))) ar)))) ay)))))))
noncomputable def w42 (F : Calls) : WS := (ad (bY (vO1 eX (aZ F 40 (aa (vO2 aJ (ac 0) (vC (.str (Str.ofString "answers")))) (aa (ac 1) (aa (vO2 bO (vO2 aJ (ac 0) (vC (.str (Str.ofString "bounds")))) (vC (.int 3))) ar))))) (ad (bP (et (aa (vC (.str (Str.ofString "refused"))) (aa (vC (.str (Str.ofString "letter"))) ar)))) ay) ay) (ad (aw 2 (vC (.int 0))) (ad (sG (bG (vO2 bK (vO2 dZ (vO2 bZ (vO2 aJ (ac 0) (vC (.str (Str.ofString "base")))) (ac 2)) (vO2 pU (vO2 aJ (ac 0) (vC (.str (Str.ofString "answers")))) (ac 1))) (vO2 aJ (ac 0) (vC (.str (Str.ofString "ring"))))) (aS cNe (vC (.int 0)) bF)) (ad (aw 2 (vO2 bZ (ac 2) (vC (.int 1)))) ay)) (ad (bY (bG (vO2 bZ (vO2 aJ (ac 0) (vC (.str (Str.ofString "base")))) (ac 2)) (aS cLe (vO2 aJ (ac 0) (vC (.str (Str.ofString "top")))) bF)) (ad (pV (ac 0) (vC (.str (Str.ofString "base"))) (vO2 bZ (vO2 aJ (ac 0) (vC (.str (Str.ofString "base")))) (ac 2))) ay) ay) (ad (bP (et (aa (vC (.str (Str.ofString "told"))) (aa (vO2 aJ (ac 0) (vC (.str (Str.ofString "base")))) ar)))) ay)))))
noncomputable def w43 (F : Calls) : WS := (ad (bY (bG (vO2 bO (ac 1) (vC (.int 0))) (aS cEq (vC (.str (Str.ofString "send"))) bF)) (ad (bP (aZ F 39 (aa (ac 0) (aa (vO2 bO (ac 1) (vC (.int 1))) ar)))) ay) ay) (ad (bY (bG (vO2 bO (ac 1) (vC (.int 0))) (aS cEq (vC (.str (Str.ofString "hand"))) bF)) (ad (bP (aZ F 41 (aa (ac 0) (aa (vO2 bO (ac 1) (vC (.int 1))) ar)))) ay) ay) (ad (bP (aZ F 42 (aa (ac 0) (aa (vO2 bO (ac 1) (vC (.int 1))) ar)))) ay)))
noncomputable def w44 (F : Calls) : WS := (ad (aw 2 (vO2 bK (ac 1) (vC (.int 8)))) (ad (aw 3 (vO2 bC (ac 1) (vC (.int 8)))) (ad (bY (bG (ac 2) (aS cLt (vC (.int 3)) bF)) (ad (aw 4 (vO2 bZ (vO2 aJ (ac 0) (vC (.str (Str.ofString "base")))) (vO2 bK (ac 3) (vO2 bO (vO2 aJ (ac 0) (vC (.str (Str.ofString "bounds")))) (vC (.int 0)))))) (ad (bY (bG (vO2 bK (vO2 bC (ac 3) (vC (.int 20))) (vC (.int 7))) (aS cEq (vC (.int 1)) bF)) (ad (aw 4 (vO2 bZ (vO2 dZ (vO2 aJ (ac 0) (vC (.str (Str.ofString "base")))) (vC (.int 1))) (vO2 bK (vO2 bC (ac 3) (vC (.int 140))) (vO2 bZ (vO2 bO (vO2 aJ (ac 0) (vC (.str (Str.ofString "bounds")))) (vC (.int 0))) (vC (.int 3)))))) ay) (ad (bY (bG (vO2 bK (vO2 bC (ac 3) (vC (.int 20))) (vC (.int 7))) (aS cGt (vC (.int 3)) bF)) (ad (aw 4 (vO2 aJ (ac 0) (vC (.str (Str.ofString "top"))))) ay) ay) ay)) (ad (bP (et (aa (vC (.str (Str.ofString "send"))) (aa (vON jK (aa (vC (.int 0)) (aa (ac 4) ar))) ar)))) ay))) ay) (ad (aw 5 (vO2 di (cU false (aa (vO2 aJ (ac 0) (vC (.str (Str.ofString "letters")))) (aa (vO2 aJ (ac 0) (vC (.str (Str.ofString "answers")))) ar))) (vO2 bC (ac 2) (vC (.int 6))))) (ad (aw 6 (vO2 bO (vO2 aJ (ac 0) (vC (.str (Str.ofString "bounds")))) (vO2 bZ (vC (.int 2)) (vO2 bC (ac 2) (vC (.int 6)))))) (ad (aw 7 (vO2 bK (ac 3) (vO2 bZ (ac 6) (vC (.int 1))))) (ad (bY (bG (vO2 bK (vO2 bC (ac 3) (vC (.int 40))) (vC (.int 9))) (aS cEq (vC (.int 1)) bF)) (ad (aw 7 (vO2 di (cU false (aa (vO2 bZ (ac 6) (vC (.int 1))) (aa (vO2 dZ (vO1 zC (vC (.int 1))) (ac 6)) ar))) (vO2 bK (vO2 bC (ac 3) (vC (.int 360))) (vC (.int 2))))) ay) ay) (ad (bP (et (aa (vO2 di (cU false (aa (vC (.str (Str.ofString "hand"))) (aa (vC (.str (Str.ofString "tell"))) ar))) (vO2 bC (ac 2) (vC (.int 6)))) (aa (vON jK (aa (vC (.int 0)) (aa (vO2 dZ (vO2 dZ (vON dG (aa (ac 5) ar)) (vC (.int 1))) (ac 7)) ar))) ar)))) ay))))))))
noncomputable def w45 (F : Calls) : WS := (ad (qD [2, 3] (aZ F 43 (aa (ac 0) (aa (ac 1) ar)))) (ad (bY (bG (ac 2) (aS cEq (vC (.str (Str.ofString "refused"))) bF)) (ad (bP (vO2 aJ (pA [(Str.ofString "now"), (Str.ofString "letter")] (aa (vC (.str (Str.ofString "not now"))) (aa (vC (.str (Str.ofString "no letter"))) ar))) (ac 3))) ay) ay) (ad (bP (vO2 fN (vO2 aJ (pA [(Str.ofString "send"), (Str.ofString "hand"), (Str.ofString "tell")] (aa (vC (.str (Str.ofString "letter "))) (aa (vC (.str (Str.ofString "answer "))) (aa (vC (.str (Str.ofString "base "))) ar)))) (vO2 bO (ac 1) (vC (.int 0)))) (vON kf (aa (ac 3) ar)))) ay)))
noncomputable def w46 (F : Calls) : WS := (ad (wt (ad (cM (aZ F 33 (aa (ac 0) (aa (ac 1) (aa (ac 2) (aa (cU false (aa (vC (.str (Str.ofString "send 0"))) (aa (vC (.str (Str.ofString "x"))) ar))) ar)))))) ay) (xE clss 0 3 (ad (aw 4 (cU false (aa (vO1 (sQ clss 1) (ac 3)) (aa (vO1 (sQ clss 2) (ac 3)) (aa (vO1 (sQ clss 3) (ac 3)) ar))))) (ad (bP (BM (bG (vBm rcI qN (ac 4) (aa (vC (.bool true)) ar)) (aS cEq (vC (.int 1)) bF)) (vO2 di (cU false (aa (vC (.int 0)) (aa (vC (.int 1)) (aa (vC (.int 2)) ar)))) (vBm rcI qY (ac 4) (aa (vC (.bool true)) ar))) (vC (.int 3)))) ay)) yr)) (ad (bP (vC (.int 3))) ay))
noncomputable def w47 (F : Calls) : WS := (ad (aw 1 (aZ F 36 (aa (ac 0) ar))) (ad (qD [2, 3, 4, 5] (ac 1)) (ad (aw 6 (vO2 bZ (vC (.int 1)) (vO2 bK (aZ F 35 (aa (aZ F 34 (aa (ac 0) (aa (vC (.int 2)) ar))) (aa (vC (.int 2)) ar))) (vO2 bZ (vO2 bZ (vO2 bZ (ac 2) (ac 3)) (vON jK (aa (ac 4) (aa (ac 5) ar)))) (vC (.int 3)))))) (ad (aw 7 (aZ F 37 (aa (aZ F 34 (aa (ac 0) (aa (vC (.int 3)) ar))) (aa (vO2 bK (aZ F 34 (aa (ac 0) (aa (vC (.int 4)) ar))) (vC (.int 13))) (aa (vO2 bZ (vC (.int 1)) (vO2 bK (vO2 bC (aZ F 34 (aa (ac 0) (aa (vC (.int 4)) ar))) (vC (.int 13))) (vC (.int 13)))) ar))))) (ad (aw 8 (aZ F 38 (aa (ac 1) (aa (ac 6) (aa (ac 7) ar))))) (ad (aw 9 (cU true ar)) (ad (aw 10 (cU true ar)) (ad (yg 11 (vO1 (oSl false 5 35) (ac 0)) (ad (aw 12 (aZ F 44 (aa (ac 8) (aa (ac 11) ar)))) (ad (bY (bG (vO2 bK (vO2 bC (ac 11) (vC (.int 3))) (vC (.int 8))) (aS cEq (vC (.int 7)) bF)) (ad (aw 13 (cU false (aa (vC (.str (Str.ofString ""))) (aa (vC (.str (Str.ofString "send"))) (aa (vC (.str (Str.ofString "send 01"))) (aa (vC (.str (Str.ofString "keep 1"))) (aa (vC (.str (Str.ofString "hand -1"))) (aa (vC (.str (Str.ofString " tell 0"))) (aa (vC (.str (Str.ofString "tell 0 "))) (aa (vC (.str (Str.ofString "SEND 0"))) ar)))))))))) (ad (aw 13 (vO2 (vc false) (ac 13) (cU false (aa (vC .none) (aa (vC (.int 5)) (aa (et (aa (vC (.str (Str.ofString "send"))) (aa (vC (.int 0)) ar))) (aa (vC (.bool true)) ar))))))) (ad (cM (vBm rcL cb (ac 9) (aa (vO2 di (ac 13) (vO2 bK (vO2 bC (ac 11) (vC (.int 24))) (vC (.int 12)))) ar))) (ad (cM (vBm rcL cb (ac 10) (aa (vC (.str (Str.ofString "no line"))) ar))) ay)))) (ad (cM (vBm rcL cb (ac 9) (aa (vO2 fN (vO2 fN (vO2 bO (ac 12) (vC (.int 0))) (vC (.str (Str.ofString " ")))) (vON kf (aa (vO2 bO (ac 12) (vC (.int 1))) ar))) ar))) (ad (cM (vBm rcL cb (ac 10) (aa (aZ F 45 (aa (ac 8) (aa (ac 12) ar))) ar))) ay))) ay))) (ad (aw 14 (cU false (aa (vON (oList false) (aa (ac 7) ar)) (aa (vON (oList false) (aa (ac 9) ar)) ar)))) (ad (qf 15 (kC (aa (vC (.int 2)) ar)) (ad (aw 16 (aZ F 33 (aa (ac 1) (aa (ac 6) (aa (vO2 di (ac 14) (vC (.int 0))) (aa (vO2 di (ac 14) (vC (.int 1))) ar)))))) (ad (bY (vBl (aV false (vO1 eX (vO1 uV (ac 16))) (aV false (bG (ac 16) (aS cNe (ac 10) bF)) (aV false (bG (ac 14) (aS cNe (cU false (aa (ac 7) (aa (ac 9) ar))) bF)) (cV false))))) (ad (bP (vC (.bool false))) ay) ay) (ad (cM (vBm rcL cb (ac 16) (aa (vC (.str (Str.ofString "more"))) ar))) ay)))) (ad (bY (vBl (aV false (bG (aZ F 46 (aa (et (aa (vC (.int 0)) (aa (vC (.int 0)) (aa (vC (.int 0)) (aa (vC (.int 0)) ar))))) (aa (vC (.int 0)) (aa (vC .none) ar)))) (aS cNe (vC (.int 0)) bF)) (aV false (bG (aZ F 46 (aa (ac 1) (aa (vC (.int 0)) (aa (vC .none) ar)))) (aS cNe (vC (.int 1)) bF)) (cV false)))) (ad (bP (vC (.bool false))) ay) ay) (ad (bP (vBl (aV true (bG (aZ F 46 (aa (ac 1) (aa (ac 6) (aa (cU false (aa (vC (.int 5)) ar)) ar)))) (aS cEq (vC (.int 2)) bF)) (aV true (bG (aZ F 33 (aa (ac 1) (aa (ac 6) (aa (ac 7) (aa (cU true ar) ar))))) (aS cEq (cU true ar) bF)) (cV true))))) ay))))))))))))
noncomputable def fn0 : FnI := ⟨false, 1, 1, w0⟩
noncomputable def fn1 : FnI := ⟨false, 3, 3, w1⟩
noncomputable def fn2 : FnI := ⟨false, 1, 1, w2⟩
noncomputable def fn3 : FnI := ⟨false, 1, 1, w3⟩
noncomputable def fn4 : FnI := ⟨false, 1, 1, w4⟩
noncomputable def fn5 : FnI := ⟨false, 1, 2, w5⟩
noncomputable def fn6 : FnI := ⟨false, 2, 2, w6⟩
noncomputable def fn7 : FnI := ⟨false, 1, 1, w7⟩
noncomputable def fn8 : FnI := ⟨false, 2, 2, w8⟩
noncomputable def fn9 : FnI := ⟨false, 1, 1, w9⟩
noncomputable def wc : FnI := ⟨false, 2, 2, w10⟩
noncomputable def zi : FnI := ⟨false, 4, 4, w11⟩
noncomputable def zM : FnI := ⟨false, 1, 1, w12⟩
noncomputable def AG : FnI := ⟨false, 2, 3, w13⟩
noncomputable def Ac : FnI := ⟨false, 2, 3, w14⟩
noncomputable def zD : FnI := ⟨false, 3, 3, w15⟩
noncomputable def zP : FnI := ⟨false, 3, 4, w16⟩
noncomputable def Dt : FnI := ⟨false, 1, 1, w17⟩
noncomputable def Db : FnI := ⟨false, 1, 1, w18⟩
noncomputable def El : FnI := ⟨false, 1, 1, w19⟩
noncomputable def AH : FnI := ⟨false, 1, 1, w20⟩
noncomputable def Ak : FnI := ⟨false, 1, 1, w21⟩
noncomputable def pI : FnI := ⟨false, 4, 4, w22⟩
noncomputable def lI : FnI := ⟨false, 2, 4, w23⟩
noncomputable def DU : FnI := ⟨false, 1, 1, w24⟩
noncomputable def DV : FnI := ⟨false, 1, 1, w25⟩
noncomputable def Do : FnI := ⟨false, 1, 5, w26⟩
noncomputable def EP : FnI := ⟨false, 1, 1, w27⟩
noncomputable def DI : FnI := ⟨false, 1, 1, w28⟩
noncomputable def EU : FnI := ⟨false, 1, 1, w29⟩
noncomputable def sw : FnI := ⟨false, 1, 2, w30⟩
noncomputable def wk : FnI := ⟨false, 1, 5, w31⟩
noncomputable def fn32 : FnI := ⟨false, 2, 4, w32⟩
noncomputable def pO : FnI := ⟨false, 4, 6, w33⟩
noncomputable def zk : FnI := ⟨false, 2, 2, w34⟩
noncomputable def Aj : FnI := ⟨false, 2, 2, w35⟩
noncomputable def fn36 : FnI := ⟨false, 1, 6, w36⟩
noncomputable def Ad : FnI := ⟨false, 3, 10, w37⟩
noncomputable def Az : FnI := ⟨false, 3, 4, w38⟩
noncomputable def AA : FnI := ⟨false, 2, 2, w39⟩
noncomputable def zh : FnI := ⟨false, 3, 3, w40⟩
noncomputable def wx : FnI := ⟨false, 2, 6, w41⟩
noncomputable def wf : FnI := ⟨false, 2, 3, w42⟩
noncomputable def wA : FnI := ⟨false, 2, 2, w43⟩
noncomputable def yX : FnI := ⟨false, 2, 8, w44⟩
noncomputable def fn45 : FnI := ⟨false, 2, 4, w45⟩
noncomputable def zf : FnI := ⟨false, 3, 5, w46⟩
noncomputable def fn47 : FnI := ⟨false, 1, 17, w47⟩
noncomputable def prg : Prg := ⟨[fn0, fn1, fn2, fn3, fn4, fn5, fn6, fn7, fn8, fn9, wc, zi, zM, AG, Ac, zD, zP, Dt, Db, El, AH, Ak, pI, lI, DU, DV, Do, EP, DI, EU, sw, wk, fn32, pO, zk, Aj, fn36, Ad, Az, AA, zh, wx, wf, wA, yX, fn45, zf, fn47], clss, []⟩
end Ap.L13
end
section
namespace Ap.L13
open PySem
noncomputable abbrev prog : Program := PySem.Challenge.pw_uf020020_13
noncomputable def gds : List (Str × List Str) := [((Str.ofString "ANSWERS"), [(Str.ofString "send"), (Str.ofString "hand"), (Str.ofString "tell")])]
noncomputable def gvs : List (Str × List (Str × Str)) := [((Str.ofString "ANSWERS"), [((Str.ofString "send"), (Str.ofString "letter")), ((Str.ofString "hand"), (Str.ofString "answer")), ((Str.ofString "tell"), (Str.ofString "base"))])]
noncomputable def globs : List (Str × AV) := [((Str.ofString "MOST_WINDOW"), (.int 20)), ((Str.ofString "MOST_BACK"), (.int 20)), ((Str.ofString "MOST_RING"), (.int 200)), ((Str.ofString "MOST_TEXTS"), (.int 400)), ((Str.ofString "MOST_SIGNS"), (.int 40)), ((Str.ofString "WORDS"), (.tup [(.str (Str.ofString "send")), (.str (Str.ofString "hand")), (.str (Str.ofString "tell"))])), ((Str.ofString "MOST_NUMBER"), (.int 999999)), ((Str.ofString "FIGURES"), (.str (Str.ofString "0123456789"))), ((Str.ofString "MOST_FIGURES"), (.int 6))]
noncomputable def nm0 : List Str := [Str.ofString "k"]
noncomputable def nm1 : List Str := [Str.ofString "thing", Str.ofString "low", Str.ofString "high"]
noncomputable def nm2 : List Str := [Str.ofString "thing"]
noncomputable def nm3 : List Str := [Str.ofString "thing"]
noncomputable def nm4 : List Str := [Str.ofString "thing"]
noncomputable def nm5 : List Str := [Str.ofString "thing", Str.ofString "text"]
noncomputable def nm6 : List Str := [Str.ofString "self", Str.ofString "bound"]
noncomputable def nm7 : List Str := [Str.ofString "self"]
noncomputable def nm8 : List Str := [Str.ofString "self", Str.ofString "thing"]
noncomputable def nm9 : List Str := [Str.ofString "self"]
noncomputable def EZ : List Str := [Str.ofString "self", Str.ofString "number"]
noncomputable def Fw : List Str := [Str.ofString "self", Str.ofString "window", Str.ofString "ring", Str.ofString "many"]
noncomputable def FB : List Str := [Str.ofString "self"]
noncomputable def Gj : List Str := [Str.ofString "self", Str.ofString "k", Str.ofString "last"]
noncomputable def FT : List Str := [Str.ofString "self", Str.ofString "number", Str.ofString "step"]
noncomputable def Ft : List Str := [Str.ofString "self", Str.ofString "room", Str.ofString "ring"]
noncomputable def FU : List Str := [Str.ofString "self", Str.ofString "number", Str.ofString "text", Str.ofString "step"]
noncomputable def FQ : List Str := [Str.ofString "self"]
noncomputable def Gc : List Str := [Str.ofString "self"]
noncomputable def Gf : List Str := [Str.ofString "self"]
noncomputable def Fz : List Str := [Str.ofString "thing"]
noncomputable def FZ : List Str := [Str.ofString "thing"]
noncomputable def Fv : List Str := [Str.ofString "self", Str.ofString "bounds", Str.ofString "ring", Str.ofString "texts"]
noncomputable def FR : List Str := [Str.ofString "self", Str.ofString "step", Str.ofString "bears", Str.ofString "text"]
noncomputable def FS : List Str := [Str.ofString "self"]
noncomputable def FV : List Str := [Str.ofString "self"]
noncomputable def Fg : List Str := [Str.ofString "self", Str.ofString "found", Str.ofString "number", Str.ofString "bears", Str.ofString "text"]
noncomputable def Fy : List Str := [Str.ofString "self"]
noncomputable def Ge : List Str := [Str.ofString "self"]
noncomputable def Fu : List Str := [Str.ofString "self"]
noncomputable def FK : List Str := [Str.ofString "word", Str.ofString "sign"]
noncomputable def Fd : List Str := [Str.ofString "line", Str.ofString "word", Str.ofString "blank", Str.ofString "rest", Str.ofString "step"]
noncomputable def Gl : List Str := [Str.ofString "run", Str.ofString "line", Str.ofString "step", Str.ofString "number"]
noncomputable def FW : List Str := [Str.ofString "bounds", Str.ofString "ring", Str.ofString "texts", Str.ofString "lines", Str.ofString "run"]
noncomputable def FL : List Str := [Str.ofString "_law_script", Str.ofString "_law_k"]
noncomputable def Fa : List Str := [Str.ofString "_law_cell", Str.ofString "_law_k"]
noncomputable def Go : List Str := [Str.ofString "_law_script", Str.ofString "_law_one", Str.ofString "_law_two", Str.ofString "_law_window", Str.ofString "_law_delay", Str.ofString "_law_back"]
noncomputable def Fb : List Str := [Str.ofString "_law_cell", Str.ofString "_law_many", Str.ofString "_law_sorts", Str.ofString "_law_some", Str.ofString "_law_number", Str.ofString "_law_tail", Str.ofString "_law_at_here", Str.ofString "_law_found"]
noncomputable def Gn : List Str := [Str.ofString "_law_bounds_here", Str.ofString "_law_ring", Str.ofString "_law_texts_here", Str.ofString "_law_m"]
noncomputable def FA : List Str := [Str.ofString "_law_m", Str.ofString "_law_k"]
noncomputable def Gk : List Str := [Str.ofString "_law_rows", Str.ofString "_law_number", Str.ofString "_law_bound"]
noncomputable def Gg : List Str := [Str.ofString "_law_m", Str.ofString "_law_number", Str.ofString "_law_bears", Str.ofString "_law_text", Str.ofString "_law_want", Str.ofString "_law_step"]
noncomputable def FI : List Str := [Str.ofString "_law_m", Str.ofString "_law_number", Str.ofString "_law_step"]
noncomputable def FJ : List Str := [Str.ofString "_law_m", Str.ofString "_law_step"]
noncomputable def Fe : List Str := [Str.ofString "_law_m", Str.ofString "_law_cell", Str.ofString "_law_kind", Str.ofString "_law_more", Str.ofString "_law_k", Str.ofString "_law_rows", Str.ofString "_law_bound", Str.ofString "_law_back"]
noncomputable def FD : List Str := [Str.ofString "_law_m", Str.ofString "_law_step", Str.ofString "_law_kind", Str.ofString "_law_told"]
noncomputable def FP : List Str := [Str.ofString "_law_bounds_here", Str.ofString "_law_ring", Str.ofString "_law_texts_here", Str.ofString "error", Str.ofString "_law_kinds"]
noncomputable def Fh : List Str := [Str.ofString "_law_script", Str.ofString "_law_bounds_here", Str.ofString "_law_window", Str.ofString "_law_room", Str.ofString "_law_delay", Str.ofString "_law_back", Str.ofString "_law_ring", Str.ofString "_law_texts_here", Str.ofString "_law_m", Str.ofString "_law_lines", Str.ofString "_law_due_here", Str.ofString "_law_cell", Str.ofString "_law_step", Str.ofString "_law_odd", Str.ofString "_law_handed", Str.ofString "_law_turn", Str.ofString "_law_found"]
noncomputable def ft0 : FnT := ⟨nm0, cw prog.main.body 0, cv prog.main.body 0⟩
noncomputable def ft1 : FnT := ⟨nm1, cw prog.main.body 16, cv prog.main.body 16⟩
noncomputable def ft2 : FnT := ⟨nm2, cw prog.main.body 17, cv prog.main.body 17⟩
noncomputable def ft3 : FnT := ⟨nm3, cw prog.main.body 18, cv prog.main.body 18⟩
noncomputable def ft4 : FnT := ⟨nm4, cw prog.main.body 19, cv prog.main.body 19⟩
noncomputable def ft5 : FnT := ⟨nm5, cw prog.main.body 20, cv prog.main.body 20⟩
noncomputable def ft6 : FnT := ⟨nm6, cw (bx prog.main.body 22) 0, cv (bx prog.main.body 22) 0⟩
noncomputable def ft7 : FnT := ⟨nm7, cw (bx prog.main.body 22) 1, cv (bx prog.main.body 22) 1⟩
noncomputable def ft8 : FnT := ⟨nm8, cw (bx prog.main.body 22) 2, cv (bx prog.main.body 22) 2⟩
noncomputable def ft9 : FnT := ⟨nm9, cw (bx prog.main.body 22) 3, cv (bx prog.main.body 22) 3⟩
noncomputable def ft10 : FnT := ⟨EZ, cw (bx prog.main.body 22) 4, cv (bx prog.main.body 22) 4⟩
noncomputable def ft11 : FnT := ⟨Fw, cw (bx prog.main.body 24) 0, cv (bx prog.main.body 24) 0⟩
noncomputable def ft12 : FnT := ⟨FB, cw (bx prog.main.body 24) 1, cv (bx prog.main.body 24) 1⟩
noncomputable def ft13 : FnT := ⟨Gj, cw (bx prog.main.body 24) 2, cv (bx prog.main.body 24) 2⟩
noncomputable def ft14 : FnT := ⟨FT, cw (bx prog.main.body 24) 3, cv (bx prog.main.body 24) 3⟩
noncomputable def ft15 : FnT := ⟨Ft, cw (bx prog.main.body 25) 0, cv (bx prog.main.body 25) 0⟩
noncomputable def ft16 : FnT := ⟨FU, cw (bx prog.main.body 25) 1, cv (bx prog.main.body 25) 1⟩
noncomputable def ft17 : FnT := ⟨FQ, cw (bx prog.main.body 25) 2, cv (bx prog.main.body 25) 2⟩
noncomputable def ft18 : FnT := ⟨Gc, cw (bx prog.main.body 25) 3, cv (bx prog.main.body 25) 3⟩
noncomputable def ft19 : FnT := ⟨Gf, cw (bx prog.main.body 25) 4, cv (bx prog.main.body 25) 4⟩
noncomputable def ft20 : FnT := ⟨Fz, cw prog.main.body 29, cv prog.main.body 29⟩
noncomputable def ft21 : FnT := ⟨FZ, cw prog.main.body 30, cv prog.main.body 30⟩
noncomputable def ft22 : FnT := ⟨Fv, cw (bx prog.main.body 31) 0, cv (bx prog.main.body 31) 0⟩
noncomputable def ft23 : FnT := ⟨FR, cw (bx prog.main.body 31) 1, cv (bx prog.main.body 31) 1⟩
noncomputable def ft24 : FnT := ⟨FS, cw (bx prog.main.body 31) 2, cv (bx prog.main.body 31) 2⟩
noncomputable def ft25 : FnT := ⟨FV, cw (bx prog.main.body 31) 3, cv (bx prog.main.body 31) 3⟩
noncomputable def ft26 : FnT := ⟨Fg, cw (bx prog.main.body 31) 4, cv (bx prog.main.body 31) 4⟩
noncomputable def ft27 : FnT := ⟨Fy, cw (bx prog.main.body 31) 5, cv (bx prog.main.body 31) 5⟩
noncomputable def ft28 : FnT := ⟨Ge, cw (bx prog.main.body 31) 6, cv (bx prog.main.body 31) 6⟩
noncomputable def ft29 : FnT := ⟨Fu, cw (bx prog.main.body 31) 7, cv (bx prog.main.body 31) 7⟩
noncomputable def ft30 : FnT := ⟨FK, cw prog.main.body 36, cv prog.main.body 36⟩
noncomputable def ft31 : FnT := ⟨Fd, cw prog.main.body 37, cv prog.main.body 37⟩
noncomputable def ft32 : FnT := ⟨Gl, cw prog.main.body 38, cv prog.main.body 38⟩
noncomputable def ft33 : FnT := ⟨FW, cw prog.main.body 39, cv prog.main.body 39⟩
noncomputable def ft34 : FnT := ⟨FL, cw prog.main.body 41, cv prog.main.body 41⟩
noncomputable def ft35 : FnT := ⟨Fa, cw prog.main.body 42, cv prog.main.body 42⟩
noncomputable def ft36 : FnT := ⟨Go, cw prog.main.body 44, cv prog.main.body 44⟩
noncomputable def ft37 : FnT := ⟨Fb, cw prog.main.body 45, cv prog.main.body 45⟩
noncomputable def ft38 : FnT := ⟨Gn, cw prog.main.body 46, cv prog.main.body 46⟩
noncomputable def ft39 : FnT := ⟨FA, cw prog.main.body 47, cv prog.main.body 47⟩
noncomputable def ft40 : FnT := ⟨Gk, cw prog.main.body 48, cv prog.main.body 48⟩
noncomputable def ft41 : FnT := ⟨Gg, cw prog.main.body 49, cv prog.main.body 49⟩
noncomputable def ft42 : FnT := ⟨FI, cw prog.main.body 50, cv prog.main.body 50⟩
noncomputable def ft43 : FnT := ⟨FJ, cw prog.main.body 51, cv prog.main.body 51⟩
noncomputable def ft44 : FnT := ⟨Fe, cw prog.main.body 52, cv prog.main.body 52⟩
noncomputable def ft45 : FnT := ⟨FD, cw prog.main.body 53, cv prog.main.body 53⟩
noncomputable def ft46 : FnT := ⟨FP, cw prog.main.body 54, cv prog.main.body 54⟩
noncomputable def ft47 : FnT := ⟨Fh, cw prog.main.body 55, cv prog.main.body 55⟩
noncomputable def tabs : Tabs := ⟨[ft0, ft1, ft2, ft3, ft4, ft5, ft6, ft7, ft8, ft9, ft10, ft11, ft12, ft13, ft14, ft15, ft16, ft17, ft18, ft19, ft20, ft21, ft22, ft23, ft24, ft25, ft26, ft27, ft28, ft29, ft30, ft31, ft32, ft33, ft34, ft35, ft36, ft37, ft38, ft39, ft40, ft41, ft42, ft43, ft44, ft45, ft46, ft47], [Str.ofString "_wall", Str.ofString "is_among", Str.ofString "are_bounds", Str.ofString "need_bounds", Str.ofString "need_ring", Str.ofString "need_texts", Str.ofString "", Str.ofString "", Str.ofString "", Str.ofString "", Str.ofString "", Str.ofString "", Str.ofString "", Str.ofString "", Str.ofString "", Str.ofString "", Str.ofString "", Str.ofString "", Str.ofString "", Str.ofString "", Str.ofString "is_step", Str.ofString "need_step", Str.ofString "", Str.ofString "", Str.ofString "", Str.ofString "", Str.ofString "", Str.ofString "", Str.ofString "", Str.ofString "", Str.ofString "number_of", Str.ofString "read", Str.ofString "answered", Str.ofString "played", Str.ofString "_law_at", Str.ofString "_law_mixed", Str.ofString "_law_bounds", Str.ofString "_law_texts", Str.ofString "_law_begun", Str.ofString "_law_send", Str.ofString "_law_is_there", Str.ofString "_law_hand", Str.ofString "_law_tell", Str.ofString "_law_moved", Str.ofString "_law_drawn", Str.ofString "_law_due", Str.ofString "_law_refused", Str.ofString "law"], [Str.ofString "PostError", Str.ofString "BadBounds", Str.ofString "BadRing", Str.ofString "BadTexts", Str.ofString "BadStep", Str.ofString "NotNow", Str.ofString "NoLetter", Str.ofString "NoLine", Str.ofString "Post", Str.ofString "Sender", Str.ofString "Taker", Str.ofString "Run"], [Str.ofString "bound", Str.ofString "things", Str.ofString "window", Str.ofString "ring", Str.ofString "many", Str.ofString "base", Str.ofString "top", Str.ofString "room", Str.ofString "place", Str.ofString "own", Str.ofString "early", Str.ofString "bounds", Str.ofString "texts", Str.ofString "sender", Str.ofString "taker", Str.ofString "forth", Str.ofString "back", Str.ofString "heard", Str.ofString "gone", Str.ofString "there", Str.ofString "do", Str.ofString "sent", Str.ofString "posted", Str.ofString "taken", Str.ofString "span", Str.ofString "first", Str.ofString "came", Str.ofString "answers", Str.ofString "copied", Str.ofString "counts", Str.ofString "kept", Str.ofString "letters", Str.ofString "out", Str.ofString "want", Str.ofString "wrong"], [Str.ofString "bool", Str.ofString "enumerate", Str.ofString "int", Str.ofString "isinstance", Str.ofString "len", Str.ofString "list", Str.ofString "max", Str.ofString "min", Str.ofString "range", Str.ofString "str", Str.ofString "tuple"]⟩
theorem b0 {C : Cx} (X : CxOk C tabs prg) (Y : GlobOk C globs) (Z : GDs C gds) (V : GVs C gvs) {F : Calls} {d : Nat} (hF : bT C prg d F) : BothB C d ft0.sc ft0.nms false (w0 F) ft0.body := by
  exact BothB.no
theorem b1 {C : Cx} (X : CxOk C tabs prg) (Y : GlobOk C globs) (Z : GDs C gds) (V : GVs C gvs) {F : Calls} {d : Nat} (hF : bT C prg d F) : BothB C d ft1.sc ft1.nms false (w1 F) ft1.body := by
  exact (hB (BothS.ret (Both.and (BothBl.cons (Both.isi (t := .int) X hV rfl (by kernel_rfl) (by decide +kernel) (by kernel_rfl) yy (by decide +kernel) (by kernel_rfl)) (BothBl.cons (Both.not (Both.isi (t := .bool) X hV rfl (by kernel_rfl) (by decide +kernel) (by kernel_rfl) vN (by decide +kernel) (by kernel_rfl))) (BothBl.one (hCm hV (BothC.cons kA hV (BothC.one kA hV)))))))) hBn)
theorem b2 {C : Cx} (X : CxOk C tabs prg) (Y : GlobOk C globs) (Z : GDs C gds) (V : GVs C gvs) {F : Calls} {d : Nat} (hF : bT C prg d F) : BothB C d ft2.sc ft2.nms false (w2 F) ft2.body := by
  exact (hB (BothS.ite (Both.or (BothBl.cons (Both.not (Both.isi (t := .tuple) X hV rfl (by kernel_rfl) (by decide +kernel) (by kernel_rfl) oG (by decide +kernel) (by kernel_rfl))) (BothBl.cons (hCm (hBi X sf (hL hV hLn)) (BothC.one jn hI)) (BothBl.one (Both.not (hCa X hF (hL (hIx ce hV hI) (hL hI (hL (Both.glob X Y (i := 0) (by kernel_rfl) (by kernel_rfl)) hLn))))))))) (hB (BothS.ret Both.bool) hBn) hBn) (hB (BothS.ite (Both.not (hCa X hF (hL (hIx ce hV hI) (hL hI (hL (hIx ce hV hI) hLn))))) (hB (BothS.ret Both.bool) hBn) hBn) (hB (BothS.ret (Both.and (BothBl.cons (hCa X hF (hL (hIx ce hV hI) (hL hI (hL (Both.glob X Y (i := 1) (by kernel_rfl) (by kernel_rfl)) hLn)))) (BothBl.one (hCa X hF (hL (hIx ce hV hI) (hL hI (hL (Both.glob X Y (i := 1) (by kernel_rfl) (by kernel_rfl)) hLn)))))))) hBn)))
theorem b3 {C : Cx} (X : CxOk C tabs prg) (Y : GlobOk C globs) (Z : GDs C gds) (V : GVs C gvs) {F : Calls} {d : Nat} (hF : bT C prg d F) : BothB C d ft3.sc ft3.nms false (w3 F) ft3.body := by
  exact (hB (BothS.ite (Both.not (hCa X hF (hL hV hLn))) (hB (BothS.rais X (by kernel_rfl) (by kernel_rfl) (X.xcs 1 _ rfl rfl)) hBn) hBn) hBn)
theorem b4 {C : Cx} (X : CxOk C tabs prg) (Y : GlobOk C globs) (Z : GDs C gds) (V : GVs C gvs) {F : Calls} {d : Nat} (hF : bT C prg d F) : BothB C d ft4.sc ft4.nms false (w4 F) ft4.body := by
  exact (hB (BothS.ite (Both.not (hCa X hF (hL hV (hL hI (hL (Both.glob X Y (i := 2) (by kernel_rfl) (by kernel_rfl)) hLn))))) (hB (BothS.rais X (by kernel_rfl) (by kernel_rfl) (X.xcs 2 _ rfl rfl)) hBn) hBn) hBn)
theorem b5 {C : Cx} (X : CxOk C tabs prg) (Y : GlobOk C globs) (Z : GDs C gds) (V : GVs C gvs) {F : Calls} {d : Nat} (hF : bT C prg d F) : BothB C d ft5.sc ft5.nms false (w5 F) ft5.body := by
  exact (hB (BothS.ite (Both.or (BothBl.cons (Both.not (Both.isiE X hV rfl (by kernel_rfl) (by decide +kernel) (by kernel_rfl) qn (by decide +kernel) (by kernel_rfl))) (BothBl.one (hCm (hBi X sv (hL hV hLn)) (BothC.one pu (Both.glob X Y (i := 3) (by kernel_rfl) (by kernel_rfl))))))) (hB (BothS.rais X (by kernel_rfl) (by kernel_rfl) (X.xcs 3 _ rfl rfl)) hBn) hBn) (hB (BothS.forL hV (hB (BothS.ite (Both.or (BothBl.cons (Both.not (Both.isi (t := .str) X hV rfl (by kernel_rfl) (by decide +kernel) (by kernel_rfl) nU (by decide +kernel) (by kernel_rfl))) (BothBl.one (hCm (hBi X lK (hL hV hLn)) (BothC.one pu (Both.glob X Y (i := 4) (by kernel_rfl) (by kernel_rfl))))))) (hB (BothS.rais X (by kernel_rfl) (by kernel_rfl) (X.xcs 3 _ rfl rfl)) hBn) hBn) hBn) rfl (by kernel_rfl)) hBn))
theorem b6 {C : Cx} (X : CxOk C tabs prg) (Y : GlobOk C globs) (Z : GDs C gds) (V : GVs C gvs) {F : Calls} {d : Nat} (hF : bT C prg d F) : BothB C d ft6.sc ft6.nms false (w6 F) ft6.body := by
  exact (hB (hSa X hV hV) (hB (hSa X hV (hLs hLn)) hBn))
theorem b7 {C : Cx} (X : CxOk C tabs prg) (Y : GlobOk C globs) (Z : GDs C gds) (V : GVs C gvs) {F : Calls} {d : Nat} (hF : bT C prg d F) : BothB C d ft7.sc ft7.nms false (w7 F) ft7.body := by
  exact (hB (BothS.ret (hBi X jg (hL hI (hL (aK cy (aK cy (hBi X cZ (hL (hAt X hV) hLn)) hI) (hAt X hV)) hLn)))) hBn)
theorem b8 {C : Cx} (X : CxOk C tabs prg) (Y : GlobOk C globs) (Z : GDs C gds) (V : GVs C gvs) {F : Calls} {d : Nat} (hF : bT C prg d F) : BothB C d ft8.sc ft8.nms false (w8 F) ft8.body := by
  exact (hB (hEx (Both.bm dc (hAt X hV) (hL hV hLn) rfl (by kernel_rfl) (by decide) (by decide))) (hB (BothS.ret (aK cy (hBi X cZ (hL (hAt X hV) hLn)) hI)) hBn))
theorem b9 {C : Cx} (X : CxOk C tabs prg) (Y : GlobOk C globs) (Z : GDs C gds) (V : GVs C gvs) {F : Calls} {d : Nat} (hF : bT C prg d F) : BothB C d ft9.sc ft9.nms false (w9 F) ft9.body := by
  exact BothB.no
theorem b10 {C : Cx} (X : CxOk C tabs prg) (Y : GlobOk C globs) (Z : GDs C gds) (V : GVs C gvs) {F : Calls} {d : Nat} (hF : bT C prg d F) : BothB C d ft10.sc ft10.nms false (w10 F) ft10.body := by
  exact (hB (BothS.ite (Both.not (hCa X hF (hL hV (hL (hMe X hF hV hLn) (hL (aK cy (hBi X cZ (hL (hAt X hV) hLn)) hI) hLn))))) (hB (BothS.rais X (by kernel_rfl) (by kernel_rfl) (X.xcs 6 _ rfl rfl)) hBn) hBn) (hB (BothS.ret (hIx xV (hAt X hV) hV)) hBn))
theorem b11 {C : Cx} (X : CxOk C tabs prg) (Y : GlobOk C globs) (Z : GDs C gds) (V : GVs C gvs) {F : Calls} {d : Nat} (hF : bT C prg d F) : BothB C d ft11.sc ft11.nms false (w11 F) ft11.body := by
  exact (hB (hSa X hV hV) (hB (hSa X hV hV) (hB (hSa X hV hV) (hB (hSa X hV hI) (hB (hSa X hV hI) hBn)))))
theorem b12 {C : Cx} (X : CxOk C tabs prg) (Y : GlobOk C globs) (Z : GDs C gds) (V : GVs C gvs) {F : Calls} {d : Nat} (hF : bT C prg d F) : BothB C d ft12.sc ft12.nms false (w12 F) ft12.body := by
  exact (hB (BothS.ret (hTu (hL (hAt X hV) (hL (hAt X hV) hLn)))) hBn)
theorem b13 {C : Cx} (X : CxOk C tabs prg) (Y : GlobOk C globs) (Z : GDs C gds) (V : GVs C gvs) {F : Calls} {d : Nat} (hF : bT C prg d F) : BothB C d ft13.sc ft13.nms false (w13 F) ft13.body := by
  exact (hB (hAs (hBi X xU (hL (hAt X hV) (hL (aK cy (aK bp (hAt X hV) (hAt X hV)) hI) (hL (aK cy (hAt X hV) hI) hLn))))) (hB (BothS.ite (Both.not (hCa X hF (hL hV (hL (hAt X hV) (hL hV hLn))))) (hB (BothS.rais X (by kernel_rfl) (by kernel_rfl) (X.xcs 5 _ rfl rfl)) hBn) hBn) (hB (BothS.ite (hCm hV (BothC.one cX (hAt X hV))) (hB (hSa X hV (aK bp hV hI)) hBn) hBn) (hB (BothS.ret (aK aY hV (hAt X hV))) hBn))))
theorem b14 {C : Cx} (X : CxOk C tabs prg) (Y : GlobOk C globs) (Z : GDs C gds) (V : GVs C gvs) {F : Calls} {d : Nat} (hF : bT C prg d F) : BothB C d ft14.sc ft14.nms false (w14 F) ft14.body := by
  exact (hB (hAs (aK aY (aK cy hV (hAt X hV)) (hAt X hV))) (hB (BothS.ite (hCm (aK bp (hAt X hV) hV) (BothC.one kA (hAt X hV))) (hB (hSa X hV (aK bp (hAt X hV) hV)) hBn) hBn) hBn))
theorem b15 {C : Cx} (X : CxOk C tabs prg) (Y : GlobOk C globs) (Z : GDs C gds) (V : GVs C gvs) {F : Calls} {d : Nat} (hF : bT C prg d F) : BothB C d ft15.sc ft15.nms false (w15 F) ft15.body := by
  exact (hB (hSa X hV hV) (hB (hSa X hV hV) (hB (hSa X hV hI) (hB (hSa X hV (hLs hLn)) (hB (hSa X hV (Both.dctI X)) hBn)))))
theorem b16 {C : Cx} (X : CxOk C tabs prg) (Y : GlobOk C globs) (Z : GDs C gds) (V : GVs C gvs) {F : Calls} {d : Nat} (hF : bT C prg d F) : BothB C d ft16.sc ft16.nms false (w16 F) ft16.body := by
  exact (hB (hAs (aK aY (aK cy hV (hAt X hV)) (hAt X hV))) (hB (BothS.ite (Both.and (BothBl.cons (hCm hV (BothC.one mC (hAt X hV))) (BothBl.one (hCm (aK bp (hAt X hV) hV) (BothC.one sI (hAt X hV)))))) (hB (BothS.setI (hAt X hV) (aK bp (hAt X hV) hV) hV rfl) hBn) hBn) (hB (BothS.whil (hCm (hAt X hV) (BothC.one vo (hAt X hV))) (hB (hEx (Both.bm dc (hAt X hV) (hL (Both.bm xN (hAt X hV) (hL (hAt X hV) hLn) rfl (by kernel_rfl) (by decide) (by decide)) hLn) rfl (by kernel_rfl) (by decide) (by decide))) (hB (hSa X hV (aK bp (hAt X hV) hI)) hBn))) (hB (BothS.ret (aK aY (hAt X hV) (hAt X hV))) hBn))))
theorem b17 {C : Cx} (X : CxOk C tabs prg) (Y : GlobOk C globs) (Z : GDs C gds) (V : GVs C gvs) {F : Calls} {d : Nat} (hF : bT C prg d F) : BothB C d ft17.sc ft17.nms false (w17 F) ft17.body := by
  exact BothB.no
theorem b18 {C : Cx} (X : CxOk C tabs prg) (Y : GlobOk C globs) (Z : GDs C gds) (V : GVs C gvs) {F : Calls} {d : Nat} (hF : bT C prg d F) : BothB C d ft18.sc ft18.nms false (w18 F) ft18.body := by
  exact BothB.no
theorem b19 {C : Cx} (X : CxOk C tabs prg) (Y : GlobOk C globs) (Z : GDs C gds) (V : GVs C gvs) {F : Calls} {d : Nat} (hF : bT C prg d F) : BothB C d ft19.sc ft19.nms false (w19 F) ft19.body := by
  exact BothB.no
theorem b20 {C : Cx} (X : CxOk C tabs prg) (Y : GlobOk C globs) (Z : GDs C gds) (V : GVs C gvs) {F : Calls} {d : Nat} (hF : bT C prg d F) : BothB C d ft20.sc ft20.nms false (w20 F) ft20.body := by
  exact (hB (BothS.ite (Both.or (BothBl.cons (Both.not (Both.isi (t := .tuple) X hV rfl (by kernel_rfl) (by decide +kernel) (by kernel_rfl) oG (by decide +kernel) (by kernel_rfl))) (BothBl.cons (hCm (hBi X sf (hL hV hLn)) (BothC.one jn hI)) (BothBl.one (Both.not (Both.isi (t := .str) X (hIx ce hV hI) rfl (by kernel_rfl) (by decide +kernel) (by kernel_rfl) nU (by decide +kernel) (by kernel_rfl))))))) (hB (BothS.ret Both.bool) hBn) hBn) (hB (BothS.ret (Both.and (BothBl.cons (hCm (hIx ce hV hI) (BothC.one xD (Both.glob X Y (i := 5) (by kernel_rfl) (by kernel_rfl)))) (BothBl.one (hCa X hF (hL (hIx ce hV hI) (hL hI (hL (Both.glob X Y (i := 6) (by kernel_rfl) (by kernel_rfl)) hLn)))))))) hBn))
theorem b21 {C : Cx} (X : CxOk C tabs prg) (Y : GlobOk C globs) (Z : GDs C gds) (V : GVs C gvs) {F : Calls} {d : Nat} (hF : bT C prg d F) : BothB C d ft21.sc ft21.nms false (w21 F) ft21.body := by
  exact (hB (BothS.ite (Both.not (hCa X hF (hL hV hLn))) (hB (BothS.rais X (by kernel_rfl) (by kernel_rfl) (X.xcs 4 _ rfl rfl)) hBn) hBn) hBn)
theorem b22 {C : Cx} (X : CxOk C tabs prg) (Y : GlobOk C globs) (Z : GDs C gds) (V : GVs C gvs) {F : Calls} {d : Nat} (hF : bT C prg d F) : BothB C d ft22.sc ft22.nms false (w22 F) ft22.body := by
  exact (hB (hEx (hCa X hF (hL hV hLn))) (hB (hEx (hCa X hF (hL hV hLn))) (hB (hEx (hCa X hF (hL hV hLn))) (hB (hSa X hV hV) (hB (hSa X hV hV) (hB (hSa X hV (hBi X pz (hL hV hLn))) (hB (hSa X hV (Both.new X hF (hL (hIx ce hV hI) (hL hV (hL (hBi X sv (hL hV hLn)) hLn))) (by kernel_rfl) (by kernel_rfl) rfl rfl (by decide))) (hB (hSa X hV (Both.new X hF (hL (hIx ce hV hI) (hL hV hLn)) (by kernel_rfl) (by kernel_rfl) rfl rfl (by decide))) (hB (hSa X hV (Both.new X hF (hL (hIx ce hV hI) hLn) (by kernel_rfl) (by kernel_rfl) rfl rfl (by decide))) (hB (hSa X hV (Both.new X hF (hL (hIx ce hV hI) hLn) (by kernel_rfl) (by kernel_rfl) rfl rfl (by decide))) hBn))))))))))
theorem b23 {C : Cx} (X : CxOk C tabs prg) (Y : GlobOk C globs) (Z : GDs C gds) (V : GVs C gvs) {F : Calls} {d : Nat} (hF : bT C prg d F) : BothB C d ft23.sc ft23.nms false (w23 F) ft23.body := by
  exact (hB (hEx (hCa X hF (hL hV hLn))) (hB (BothS.ite (hCm (hIx ce hV hI) (BothC.one cX hS)) (hB (hAs (hMe X hF (hAt X hV) (hL (hIx ce hV hI) hLn))) (hB (BothS.ret (hMe X hF (hAt X hV) (hL (hTu (hL hV (hL (hIx iN (hAt X hV) (hIx ce hV hI)) hLn))) hLn))) hBn)) hBn) (hB (BothS.ite (hCm (hIx ce hV hI) (BothC.one cX hS)) (hB (BothS.unp (hMe X hF (hAt X hV) (hL (hIx ce hV hI) hLn)) (fun _ => ⟨rfl, rfl⟩) (NamesAre.cons (by kernel_rfl) (NamesAre.cons (by kernel_rfl) NamesAre.nil))) (hB (BothS.ret (hMe X hF (hAt X hV) (hL (hMe X hF (hAt X hV) (hL hV (hL hV hLn))) hLn))) hBn)) hBn) (hB (hEx (hMe X hF (hAt X hV) (hL (hMe X hF (hAt X hV) (hL (hIx ce hV hI) hLn)) hLn))) (hB (BothS.ret (hIx ce (hMe X hF (hAt X hV) hLn) hI)) hBn)))))
theorem b24 {C : Cx} (X : CxOk C tabs prg) (Y : GlobOk C globs) (Z : GDs C gds) (V : GVs C gvs) {F : Calls} {d : Nat} (hF : bT C prg d F) : BothB C d ft24.sc ft24.nms false (w24 F) ft24.body := by
  exact BothB.no
theorem b25 {C : Cx} (X : CxOk C tabs prg) (Y : GlobOk C globs) (Z : GDs C gds) (V : GVs C gvs) {F : Calls} {d : Nat} (hF : bT C prg d F) : BothB C d ft25.sc ft25.nms false (w25 F) ft25.body := by
  exact BothB.no
theorem b26 {C : Cx} (X : CxOk C tabs prg) (Y : GlobOk C globs) (Z : GDs C gds) (V : GVs C gvs) {F : Calls} {d : Nat} (hF : bT C prg d F) : BothB C d ft26.sc ft26.nms false (w26 F) ft26.body := by
  exact BothB.no
theorem b27 {C : Cx} (X : CxOk C tabs prg) (Y : GlobOk C globs) (Z : GDs C gds) (V : GVs C gvs) {F : Calls} {d : Nat} (hF : bT C prg d F) : BothB C d ft27.sc ft27.nms false (w27 F) ft27.body := by
  exact BothB.no
theorem b28 {C : Cx} (X : CxOk C tabs prg) (Y : GlobOk C globs) (Z : GDs C gds) (V : GVs C gvs) {F : Calls} {d : Nat} (hF : bT C prg d F) : BothB C d ft28.sc ft28.nms false (w28 F) ft28.body := by
  exact BothB.no
theorem b29 {C : Cx} (X : CxOk C tabs prg) (Y : GlobOk C globs) (Z : GDs C gds) (V : GVs C gvs) {F : Calls} {d : Nat} (hF : bT C prg d F) : BothB C d ft29.sc ft29.nms false (w29 F) ft29.body := by
  exact BothB.no
theorem b30 {C : Cx} (X : CxOk C tabs prg) (Y : GlobOk C globs) (Z : GDs C gds) (V : GVs C gvs) {F : Calls} {d : Nat} (hF : bT C prg d F) : BothB C d ft30.sc ft30.nms false (w30 F) ft30.body := by
  exact (hB (BothS.ite (Both.or (BothBl.cons (Both.not (hCm hI (BothC.cons kA (hBi X lK (hL hV hLn)) (BothC.one kA (Both.glob X Y (i := 8) (by kernel_rfl) (by kernel_rfl)))))) (BothBl.one (Both.and (BothBl.cons (hCm (hIx CC hV hI) (BothC.one cX hS)) (BothBl.one (hCm hV (BothC.one jn hS)))))))) (hB (BothS.rais X (by kernel_rfl) (by kernel_rfl) (X.xcs 7 _ rfl rfl)) hBn) hBn) (hB (BothS.forX (SrcE.chars hV) (hB (BothS.ite (hCm hV (BothC.one ye (Both.glob X Y (i := 7) (by kernel_rfl) (by kernel_rfl)))) (hB (BothS.rais X (by kernel_rfl) (by kernel_rfl) (X.xcs 7 _ rfl rfl)) hBn) hBn) hBn) rfl (by kernel_rfl)) (hB (BothS.ret (hBi X xx (hL hV hLn))) hBn)))
theorem b31 {C : Cx} (X : CxOk C tabs prg) (Y : GlobOk C globs) (Z : GDs C gds) (V : GVs C gvs) {F : Calls} {d : Nat} (hF : bT C prg d F) : BothB C d ft31.sc ft31.nms false (w31 F) ft31.body := by
  exact (hB (BothS.ite (Both.not (Both.isi (t := .str) X hV rfl (by kernel_rfl) (by decide +kernel) (by kernel_rfl) nU (by decide +kernel) (by kernel_rfl))) (hB (BothS.rais X (by kernel_rfl) (by kernel_rfl) (X.xcs 7 _ rfl rfl)) hBn) hBn) (hB (BothS.unp (Both.bm ri hV (hL hS hLn) rfl (by kernel_rfl) (by decide) (by decide)) (fun _ => ⟨rfl, rfl⟩) (NamesAre.cons (by kernel_rfl) (NamesAre.cons (by kernel_rfl) (NamesAre.cons (by kernel_rfl) NamesAre.nil)))) (hB (BothS.ite (Both.or (BothBl.cons (Both.ninG X Z (i := 0) hV (by kernel_rfl) (by kernel_rfl)) (BothBl.one (hCm hV (BothC.one cX hS))))) (hB (BothS.rais X (by kernel_rfl) (by kernel_rfl) (X.xcs 7 _ rfl rfl)) hBn) hBn) (hB (hAs (hTu (hL hV (hL (hCa X hF (hL hV hLn)) hLn)))) (hB (BothS.ite (Both.not (hCa X hF (hL hV hLn))) (hB (BothS.rais X (by kernel_rfl) (by kernel_rfl) (X.xcs 7 _ rfl rfl)) hBn) hBn) (hB (BothS.ret hV) hBn))))))
theorem b32 {C : Cx} (X : CxOk C tabs prg) (Y : GlobOk C globs) (Z : GDs C gds) (V : GVs C gvs) {F : Calls} {d : Nat} (hF : bT C prg d F) : BothB C d ft32.sc ft32.nms false (w32 F) ft32.body := by
  exact (hB (BothS.tryN X (hB (hAs (hCa X hF (hL hV hLn))) (hB (hAs (hMe X hF hV (hL hV hLn))) hBn)) (BothN.cons (by kernel_rfl) (by kernel_rfl) rfl rfl (hB (BothS.ret hS) hBn) (BothN.cons (by kernel_rfl) (by kernel_rfl) rfl rfl (hB (BothS.ret hS) hBn) (BothN.cons (by kernel_rfl) (by kernel_rfl) rfl rfl (hB (BothS.ret hS) hBn) BothN.nil)))) (hB (BothS.ret (aK fF (aK fF (Both.idxG X V (i := 0) (hIx ce hV hI) (by kernel_rfl) (by kernel_rfl) fun _ _ => rfl) hS) (hBi X lA (hL hV hLn)))) hBn))
theorem b33 {C : Cx} (X : CxOk C tabs prg) (Y : GlobOk C globs) (Z : GDs C gds) (V : GVs C gvs) {F : Calls} {d : Nat} (hF : bT C prg d F) : BothB C d ft33.sc ft33.nms false (w33 F) ft33.body := by
  exact (hB (hAs (Both.new X hF (hL hV (hL hV (hL hV hLn))) (by kernel_rfl) (by kernel_rfl) rfl rfl (by decide))) (hB (BothS.ret (Both.comp (nms' := ft33.nms ++ [(Str.ofString "line")]) (SrcE.list hV) (hCa X hF (hL hV (hL hV hLn))) (TgtOk.one (by kernel_rfl) (by kernel_rfl) (by kernel_rfl)) (by kernel_rfl) rfl)) hBn))
theorem b34 {C : Cx} (X : CxOk C tabs prg) (Y : GlobOk C globs) (Z : GDs C gds) (V : GVs C gvs) {F : Calls} {d : Nat} (hF : bT C prg d F) : BothB C d ft34.sc ft34.nms false (w34 F) ft34.body := by
  exact (hB (BothS.ite (hCm hV (BothC.one mC (hBi X vi (hL hV hLn)))) (hB (BothS.ret (hIx iN hV hV)) hBn) hBn) (hB (BothS.ret hI) hBn))
theorem b35 {C : Cx} (X : CxOk C tabs prg) (Y : GlobOk C globs) (Z : GDs C gds) (V : GVs C gvs) {F : Calls} {d : Nat} (hF : bT C prg d F) : BothB C d ft35.sc ft35.nms false (w35 F) ft35.body := by
  exact (hB (BothS.ret (aK aY (aK bp (aK nr hV hI) (aK nr (aK nr hI (aK bp hV hI)) (aK bp hV hI))) hI)) hBn)
theorem b36 {C : Cx} (X : CxOk C tabs prg) (Y : GlobOk C globs) (Z : GDs C gds) (V : GVs C gvs) {F : Calls} {d : Nat} (hF : bT C prg d F) : BothB C d ft36.sc ft36.nms false (w36 F) ft36.body := by
  exact (hB (hAs (hCa X hF (hL (hCa X hF (hL hV (hL hI hLn))) (hL hI hLn)))) (hB (hAs (hCa X hF (hL (hCa X hF (hL hV (hL hI hLn))) (hL hI hLn)))) (hB (hAs (aK bp hI (aK aY hV hI))) (hB (hAs (aK aY hV hI)) (hB (hAs (aK aY (aK bz hV hI) hI)) (hB (BothS.ite (hCm (aK aY (aK bz hV hI) hI) (BothC.one cX hI)) (hB (hAs (aK bp hI (aK aY (aK bz hV hI) hI))) hBn) hBn) (hB (BothS.ite (hCm (aK aY (aK bz hV hI) hI) (BothC.one AF (hTu (hL hI (hL hI hLn))))) (hB (hAs (aK aY (aK bz hV hI) hI)) hBn) hBn) (hB (BothS.ite (hCm (aK aY (aK bz hV hI) hI) (BothC.one cX hI)) (hB (hAs (aK aY (aK bz hV hI) hI)) hBn) hBn) (hB (BothS.ite (hCm (aK aY (aK bz hV hI) hI) (BothC.one pu hI)) (hB (hAs (aK aY (aK bz hV hI) (hIx iN (hLs (hL hI (hL hI hLn))) (aK aY (aK bz hV hI) hI)))) hBn) hBn) (hB (BothS.ret (hTu (hL hV (hL (aK bp hI (aK aY (aK bz hV hI) hV)) (hL hV (hL hV hLn)))))) hBn))))))))))
theorem b37 {C : Cx} (X : CxOk C tabs prg) (Y : GlobOk C globs) (Z : GDs C gds) (V : GVs C gvs) {F : Calls} {d : Nat} (hF : bT C prg d F) : BothB C d ft37.sc ft37.nms false (w37 F) ft37.body := by
  exact (hB (hAs hS) (hB (hAs (hCa X hF (hL hV (hL hI hLn)))) (hB (hAs (Both.bm zN hS (hL (Both.comp (nms' := ft37.nms ++ [(Str.ofString "_law_j")]) (SrcE.range X (hL (aK aY (aK bz hV hI) hI) hLn) (by kernel_rfl) (by decide +kernel) (by kernel_rfl)) (hIx DH hV (aK aY (aK bp (aK bz hV hI) (aK nr hV (aK bp hI (aK aY hV hI)))) (hBi X lK (hL hV hLn)))) (TgtOk.one (by kernel_rfl) (by kernel_rfl) (by kernel_rfl)) (by kernel_rfl) rfl) hLn) rfl (by kernel_rfl) (by decide) (by decide))) (hB (hAs (aK aY (aK bz hV hI) (aK bp (hBi X lK (hL hV hLn)) hI))) (hB (BothS.assignComp (nms' := ft37.nms ++ [(Str.ofString "_law_k")]) (SrcE.range X (hL hV hLn) (by kernel_rfl) (by decide +kernel) (by kernel_rfl)) (aK fF (aK fF (Both.sliceHiX hV hV) (hBi X lA (hL (aK aY hV hV) hLn))) (Both.sliceLoX hV hV)) (TgtOk.one (by kernel_rfl) (by kernel_rfl) (by kernel_rfl)) (by kernel_rfl) rfl (by kernel_rfl) (by kernel_rfl)) (hB (BothS.ite (hCm (aK aY (aK bz hV hI) hI) (BothC.one cX hI)) (hB (BothS.assignComp (nms' := ft37.nms ++ [(Str.ofString "_law_k"), (Str.ofString "_law_one")]) (SrcE.enum X (hL hV hLn) (by kernel_rfl) (by decide +kernel) (by kernel_rfl)) (hIx iN (hLs (hL hV (hL hS hLn))) (hBi X xm (hL (hCm (aK aY hV hV) (BothC.one cX (aK aY (aK bz hV hI) hV))) hLn))) (TgtOk.two (by kernel_rfl) (by kernel_rfl) (by kernel_rfl) (by decide +kernel) (by kernel_rfl) (by kernel_rfl)) (by kernel_rfl) rfl (by kernel_rfl) (by kernel_rfl)) hBn) hBn) (hB (BothS.ret hV) hBn)))))))
theorem b38 {C : Cx} (X : CxOk C tabs prg) (Y : GlobOk C globs) (Z : GDs C gds) (V : GVs C gvs) {F : Calls} {d : Nat} (hF : bT C prg d F) : BothB C d ft38.sc ft38.nms false (w38 F) ft38.body := by
  exact (hB (hAs (Both.dctS X (hL hV (hL hV (hL hV (hL hI (hL hI (hL (hLs hLn) (hL (Both.dctI X) hLn))))))) (KeysAre.cons (by kernel_rfl) (KeysAre.cons (by kernel_rfl) (KeysAre.cons (by kernel_rfl) (KeysAre.cons (by kernel_rfl) (KeysAre.cons (by kernel_rfl) (KeysAre.cons (by kernel_rfl) (KeysAre.cons (by kernel_rfl) KeysAre.nil))))))) rfl (by decide) (by decide +kernel) (by decide +kernel))) (hB (BothS.setS hV hS (hLs hLn) rfl) (hB (BothS.setS hV hS (hLs hLn) rfl) (hB (BothS.ret hV) hBn))))
theorem b39 {C : Cx} (X : CxOk C tabs prg) (Y : GlobOk C globs) (Z : GDs C gds) (V : GVs C gvs) {F : Calls} {d : Nat} (hF : bT C prg d F) : BothB C d ft39.sc ft39.nms false (w39 F) ft39.body := by
  exact (hB (BothS.ite (Both.or (BothBl.cons (hCm hV (BothC.one mC (hIx bj hV hS))) (BothBl.cons (hCm hV (BothC.one pu (hIx bj hV hS))) (BothBl.cons (hCm hV (BothC.one xy (aK bp (hIx bj hV hS) (hIx ce (hIx bj hV hS) hI)))) (BothBl.one (hCm hV (BothC.one xy (hBi X vi (hL (hIx bj hV hS) hLn))))))))) (hB (BothS.ret (hTu (hL hS (hL hS hLn)))) hBn) hBn) (hB (BothS.setS hV hS (hBi X jg (hL (hIx bj hV hS) (hL (aK bp hV hI) hLn))) rfl) (hB (hEx (Both.bm dc (hIx bj hV hS) (hL (hTu (hL (aK aY hV (hIx bj hV hS)) (hL (hIx iN (hIx bj hV hS) hV) hLn))) hLn) rfl (by kernel_rfl) (by decide) (by decide))) (hB (BothS.ret (hTu (hL hS (hL (aK cy (hBi X cZ (hL (hIx bj hV hS) hLn)) hI) hLn)))) hBn))))
theorem b40 {C : Cx} (X : CxOk C tabs prg) (Y : GlobOk C globs) (Z : GDs C gds) (V : GVs C gvs) {F : Calls} {d : Nat} (hF : bT C prg d F) : BothB C d ft40.sc ft40.nms false (w40 F) ft40.body := by
  exact (hB (BothS.ret (Both.and (BothBl.cons (hCm hV (BothC.one mC (hBi X cZ (hL hV hLn)))) (BothBl.one (hCm (aK cy (aK cy (hBi X cZ (hL hV hLn)) hI) hV) (BothC.one kA hV)))))) hBn)
theorem b41 {C : Cx} (X : CxOk C tabs prg) (Y : GlobOk C globs) (Z : GDs C gds) (V : GVs C gvs) {F : Calls} {d : Nat} (hF : bT C prg d F) : BothB C d ft41.sc ft41.nms false (w41 F) ft41.body := by
  exact (hB (BothS.ite (Both.not (hCa X hF (hL (hIx bj hV hS) (hL hV (hL (hIx ce (hIx bj hV hS) hI) hLn))))) (hB (BothS.ret (hTu (hL hS (hL hS hLn)))) hBn) hBn) (hB (BothS.unp (hIx xV (hIx bj hV hS) hV) (fun _ => ⟨rfl, rfl⟩) (NamesAre.cons (by kernel_rfl) (NamesAre.cons (by kernel_rfl) NamesAre.nil))) (hB (hAs (hBi X cZ (hL (hIx bj hV hS) hLn))) (hB (BothS.forX (SrcE.range X (hL (hIx ce (hIx bj hV hS) hI) hLn) (by kernel_rfl) (by decide +kernel) (by kernel_rfl)) (hB (BothS.ite (Both.and (BothBl.cons (hCm hV (BothC.one mC (hIx bj hV hS))) (BothBl.cons (hCm (aK aY (aK cy (aK bp hV hV) hV) (hIx bj hV hS)) (BothC.one cX hI)) (BothBl.one (hCm (aK bp hV hV) (BothC.one sI (hIx bj hV hS))))))) (hB (BothS.setI (hIx bj hV hS) (aK bp hV hV) hV rfl) hBn) hBn) hBn) rfl (by kernel_rfl)) (hB (BothS.whil (hCm (hBi X cZ (hL (hIx bj hV hS) hLn)) (BothC.one vo (hIx bj hV hS))) (hB (hEx (Both.bm dc (hIx bj hV hS) (hL (Both.bm xN (hIx bj hV hS) (hL (hBi X cZ (hL (hIx bj hV hS) hLn)) hLn) rfl (by kernel_rfl) (by decide) (by decide)) hLn) rfl (by kernel_rfl) (by decide) (by decide))) hBn)) (hB (hEx (Both.bm dc (hIx bj hV hS) (hL (aK aY (hBi X cZ (hL (hIx bj hV hS) hLn)) (hIx bj hV hS)) hLn) rfl (by kernel_rfl) (by decide) (by decide))) (hB (BothS.ret (hTu (hL hS (hL (aK cy (hBi X cZ (hL (hIx bj hV hS) hLn)) hI) hLn)))) hBn)))))))
theorem b42 {C : Cx} (X : CxOk C tabs prg) (Y : GlobOk C globs) (Z : GDs C gds) (V : GVs C gvs) {F : Calls} {d : Nat} (hF : bT C prg d F) : BothB C d ft42.sc ft42.nms false (w42 F) ft42.body := by
  exact (hB (BothS.ite (Both.not (hCa X hF (hL (hIx bj hV hS) (hL hV (hL (hIx ce (hIx bj hV hS) hI) hLn))))) (hB (BothS.ret (hTu (hL hS (hL hS hLn)))) hBn) hBn) (hB (hAs hI) (hB (BothS.whil (hCm (aK aY (aK cy (aK bp (hIx bj hV hS) hV) (hIx xV (hIx bj hV hS) hV)) (hIx bj hV hS)) (BothC.one jn hI)) (hB (hAs (aK bp hV hI)) hBn)) (hB (BothS.ite (hCm (aK bp (hIx bj hV hS) hV) (BothC.one kA (hIx bj hV hS))) (hB (BothS.setS hV hS (aK bp (hIx bj hV hS) hV) rfl) hBn) hBn) (hB (BothS.ret (hTu (hL hS (hL (hIx bj hV hS) hLn)))) hBn)))))
theorem b43 {C : Cx} (X : CxOk C tabs prg) (Y : GlobOk C globs) (Z : GDs C gds) (V : GVs C gvs) {F : Calls} {d : Nat} (hF : bT C prg d F) : BothB C d ft43.sc ft43.nms false (w43 F) ft43.body := by
  exact (hB (BothS.ite (hCm (hIx ce hV hI) (BothC.one cX hS)) (hB (BothS.ret (hCa X hF (hL hV (hL (hIx ce hV hI) hLn)))) hBn) hBn) (hB (BothS.ite (hCm (hIx ce hV hI) (BothC.one cX hS)) (hB (BothS.ret (hCa X hF (hL hV (hL (hIx ce hV hI) hLn)))) hBn) hBn) (hB (BothS.ret (hCa X hF (hL hV (hL (hIx ce hV hI) hLn)))) hBn)))
theorem b44 {C : Cx} (X : CxOk C tabs prg) (Y : GlobOk C globs) (Z : GDs C gds) (V : GVs C gvs) {F : Calls} {d : Nat} (hF : bT C prg d F) : BothB C d ft44.sc ft44.nms false (w44 F) ft44.body := by
  exact (hB (hAs (aK aY hV hI)) (hB (hAs (aK bz hV hI)) (hB (BothS.ite (hCm hV (BothC.one mC hI)) (hB (hAs (aK bp (hIx bj hV hS) (aK aY hV (hIx ce (hIx bj hV hS) hI)))) (hB (BothS.ite (hCm (aK aY (aK bz hV hI) hI) (BothC.one cX hI)) (hB (hAs (aK bp (aK cy (hIx bj hV hS) hI) (aK aY (aK bz hV hI) (aK bp (hIx ce (hIx bj hV hS) hI) hI)))) hBn) (hB (BothS.ite (hCm (aK aY (aK bz hV hI) hI) (BothC.one pu hI)) (hB (hAs (hIx bj hV hS)) hBn) hBn) hBn)) (hB (BothS.ret (hTu (hL hS (hL (hBi X jg (hL hI (hL hV hLn))) hLn)))) hBn))) hBn) (hB (hAs (hIx iN (hLs (hL (hIx bj hV hS) (hL (hIx bj hV hS) hLn))) (aK bz hV hI))) (hB (hAs (hIx ce (hIx bj hV hS) (aK bp hI (aK bz hV hI)))) (hB (hAs (aK aY hV (aK bp hV hI))) (hB (BothS.ite (hCm (aK aY (aK bz hV hI) hI) (BothC.one cX hI)) (hB (hAs (hIx iN (hLs (hL (aK bp hV hI) (hL (aK cy (Both.neg hI) hV) hLn))) (aK aY (aK bz hV hI) hI))) hBn) hBn) (hB (BothS.ret (hTu (hL (hIx iN (hLs (hL hS (hL hS hLn))) (aK bz hV hI)) (hL (hBi X jg (hL hI (hL (aK cy (aK cy (hBi X cZ (hL hV hLn)) hI) hV) hLn))) hLn)))) hBn))))))))
theorem b45 {C : Cx} (X : CxOk C tabs prg) (Y : GlobOk C globs) (Z : GDs C gds) (V : GVs C gvs) {F : Calls} {d : Nat} (hF : bT C prg d F) : BothB C d ft45.sc ft45.nms false (w45 F) ft45.body := by
  exact (hB (BothS.unp (hCa X hF (hL hV (hL hV hLn))) (fun _ => ⟨rfl, rfl⟩) (NamesAre.cons (by kernel_rfl) (NamesAre.cons (by kernel_rfl) NamesAre.nil))) (hB (BothS.ite (hCm hV (BothC.one cX hS)) (hB (BothS.ret (hIx bj (Both.dctS X (hL hS (hL hS hLn)) (KeysAre.cons (by kernel_rfl) (KeysAre.cons (by kernel_rfl) KeysAre.nil)) rfl (by decide) (by decide +kernel) (by decide +kernel)) hV)) hBn) hBn) (hB (BothS.ret (aK fF (hIx bj (Both.dctS X (hL hS (hL hS (hL hS hLn))) (KeysAre.cons (by kernel_rfl) (KeysAre.cons (by kernel_rfl) (KeysAre.cons (by kernel_rfl) KeysAre.nil))) rfl (by decide) (by decide +kernel) (by decide +kernel)) (hIx ce hV hI)) (hBi X lA (hL hV hLn)))) hBn)))
theorem b46 {C : Cx} (X : CxOk C tabs prg) (Y : GlobOk C globs) (Z : GDs C gds) (V : GVs C gvs) {F : Calls} {d : Nat} (hF : bT C prg d F) : BothB C d ft46.sc ft46.nms false (w46 F) ft46.body := by
  exact (hB (BothS.tryE X (hB (hEx (hCa X hF (hL hV (hL hV (hL hV (hL (hLs (hL hS (hL hS hLn))) hLn)))))) hBn) (BothH.cons (by kernel_rfl) (by kernel_rfl) rfl rfl (by kernel_rfl) (by kernel_rfl) (hB (hAs (hLs (hL (Both.isiX X hV rfl (by kernel_rfl) (by decide +kernel) (by kernel_rfl) (by kernel_rfl) (by kernel_rfl) rfl rfl) (hL (Both.isiX X hV rfl (by kernel_rfl) (by decide +kernel) (by kernel_rfl) (by kernel_rfl) (by kernel_rfl) rfl rfl) (hL (Both.isiX X hV rfl (by kernel_rfl) (by decide +kernel) (by kernel_rfl) (by kernel_rfl) (by kernel_rfl) rfl rfl) hLn))))) (hB (BothS.ret (Both.ite (hCm (Both.bm wd hV (hL Both.bool hLn) rfl (by kernel_rfl) (by decide) (by decide)) (BothC.one cX hI)) (hIx iN (hLs (hL hI (hL hI (hL hI hLn)))) (Both.bm wq hV (hL Both.bool hLn) rfl (by kernel_rfl) (by decide) (by decide))) hI)) hBn)) BothH.nil)) (hB (BothS.ret hI) hBn))
theorem b47 {C : Cx} (X : CxOk C tabs prg) (Y : GlobOk C globs) (Z : GDs C gds) (V : GVs C gvs) {F : Calls} {d : Nat} (hF : bT C prg d F) : BothB C d ft47.sc ft47.nms false (w47 F) ft47.body := by
  exact (hB (hAs (hCa X hF (hL hV hLn))) (hB (BothS.unp hV (fun _ => ⟨rfl, rfl⟩) (NamesAre.cons (by kernel_rfl) (NamesAre.cons (by kernel_rfl) (NamesAre.cons (by kernel_rfl) (NamesAre.cons (by kernel_rfl) NamesAre.nil))))) (hB (hAs (aK bp hI (aK aY (hCa X hF (hL (hCa X hF (hL hV (hL hI hLn))) (hL hI hLn))) (aK bp (aK bp (aK bp hV hV) (hBi X jg (hL hV (hL hV hLn)))) hI)))) (hB (hAs (hCa X hF (hL (hCa X hF (hL hV (hL hI hLn))) (hL (aK aY (hCa X hF (hL hV (hL hI hLn))) hI) (hL (aK bp hI (aK aY (aK bz (hCa X hF (hL hV (hL hI hLn))) hI) hI)) hLn))))) (hB (hAs (hCa X hF (hL hV (hL hV (hL hV hLn))))) (hB (hAs (hLs hLn)) (hB (hAs (hLs hLn)) (hB (BothS.forL (Both.slice rfl rfl hV) (hB (hAs (hCa X hF (hL hV (hL hV hLn)))) (hB (BothS.ite (hCm (aK aY (aK bz hV hI) hI) (BothC.one cX hI)) (hB (hAs (hLs (hL hS (hL hS (hL hS (hL hS (hL hS (hL hS (hL hS (hL hS hLn)))))))))) (hB (hAs (aK xI hV (hLs (hL Both.none (hL hI (hL (hTu (hL hS (hL hI hLn))) (hL Both.bool hLn))))))) (hB (hEx (Both.bm dc hV (hL (hIx iN hV (aK aY (aK bz hV hI) hI)) hLn) rfl (by kernel_rfl) (by decide) (by decide))) (hB (hEx (Both.bm dc hV (hL hS hLn) rfl (by kernel_rfl) (by decide) (by decide))) hBn)))) (hB (hEx (Both.bm dc hV (hL (aK fF (aK fF (hIx ce hV hI) hS) (hBi X lA (hL (hIx ce hV hI) hLn))) hLn) rfl (by kernel_rfl) (by decide) (by decide))) (hB (hEx (Both.bm dc hV (hL (hCa X hF (hL hV (hL hV hLn))) hLn) rfl (by kernel_rfl) (by decide) (by decide))) hBn))) hBn)) rfl (by kernel_rfl)) (hB (hAs (hLs (hL (hBi X pz (hL hV hLn)) (hL (hBi X pz (hL hV hLn)) hLn)))) (hB (BothS.forX (SrcE.range X (hL hI hLn) (by kernel_rfl) (by decide +kernel) (by kernel_rfl)) (hB (hAs (hCa X hF (hL hV (hL hV (hL (hIx iN hV hI) (hL (hIx iN hV hI) hLn)))))) (hB (BothS.ite (Both.or (BothBl.cons (Both.not (EB X hV rfl (by kernel_rfl) (by decide +kernel) (by kernel_rfl) qn (by decide +kernel) (by kernel_rfl))) (BothBl.cons (hCm hV (BothC.one jn hV)) (BothBl.one (hCm hV (BothC.one jn (hLs (hL hV (hL hV hLn))))))))) (hB (BothS.ret Both.bool) hBn) hBn) (hB (hEx (Both.bm dc hV (hL hS hLn) rfl (by kernel_rfl) (by decide) (by decide))) hBn))) rfl (by kernel_rfl)) (hB (BothS.ite (Both.or (BothBl.cons (hCm (hCa X hF (hL (hTu (hL hI (hL hI (hL hI (hL hI hLn))))) (hL hI (hL Both.none hLn)))) (BothC.one jn hI)) (BothBl.one (hCm (hCa X hF (hL hV (hL hI (hL Both.none hLn)))) (BothC.one jn hI))))) (hB (BothS.ret Both.bool) hBn) hBn) (hB (BothS.ret (Both.and (BothBl.cons (hCm (hCa X hF (hL hV (hL hV (hL (hLs (hL hI hLn)) hLn)))) (BothC.one cX hI)) (BothBl.one (hCm (hCa X hF (hL hV (hL hV (hL hV (hL (hLs hLn) hLn))))) (BothC.one cX (hLs hLn))))))) hBn))))))))))))
end Ap.L13
end
section
namespace Ap.L13
open PySem
variable {d : Nat} {σ σ' : St} {Q : PQ} {E : PE}
theorem pW {ns : List Int} (k : Nat) {i : Int} (hi : i = k) (h : Q (.int (ns.getD k 0)) σ) : wpF prg (d + 1) 34 [.ilist (ns.map .int), .int i] σ Q E := by
  subst hi
  refine aT (fi := zk) rfl rfl ?_
  simp only [zk, List.map_cons, List.map_nil, Nat.reduceSub, List.replicate_zero, List.cons_append, List.nil_append, w34, ag, bh, bd, br, aL, az, cH, an, aP, ak, ap, am, cz, yp, List.length_map, aI, wp, Int.ofNat_lt, bH, au, aG]
  rw [List.getD_eq_getElem?_getD] at h
  by_cases hk : k < ns.length
  · simp only [hk, decide_true, bv, ag, bA, aX, aP, aC, br, aD, i_l, Int.toNat_natCast, List.getElem?_map, List.getElem?_eq_getElem hk, Option.map_some, aM, aN, aF, aO]
    rw [List.getElem?_eq_getElem hk] at h
    exact ⟨Int.natCast_nonneg k, h⟩
  · simp only [hk, decide_false, bg, bc, aj, ag, bA, e_c, aN, aF, aO]
    rw [List.getElem?_eq_none (Nat.le_of_not_lt hk)] at h
    exact h
theorem lC {c k : Int} (hk : k.natAbs < 100) (h : Q (.int ((c * 48271 + 7919 * (k + 1) * (k + 3)).fmod 2147483647)) σ) : wpF prg (d + 1) 35 [.int c, .int k] σ Q E := by
  refine aT (fi := Aj) rfl rfl ?_
  simp only [Aj, List.map_cons, List.map_nil, Nat.reduceSub, List.replicate_zero, List.cons_append, List.nil_append, w35, ag, bA, aX, aP, aC, e_c, aD, AY, Nat.reducePow, Int.reduceAbs, Nat.reduceLT, or_true, br, cf, bR, ne_eq, Int.reduceEq, not_false_eq_true, aN, aF, aO, true_and]
  exact ⟨.inl (by decide), .inr (by omega), h⟩
theorem dA {v : AV} {lo hi : Int} (hv : cq v = true) (h : Q (.bool (amongB v lo hi)) σ) : wpF prg (d + 1) 1 [v, .int lo, .int hi] σ Q E := by
  refine aT (fi := fn1) rfl rfl ?_
  simp only [fn1, List.map_cons, List.map_nil, Nat.reduceSub, List.replicate_zero, List.cons_append, List.nil_append, w1, ag, bA, fb, aQ, bQ, aP, bN, iU hv, aG, bJ, gj]
  cases v with
  | int i =>
    simp only [FY, bE, aQ, bQ, aP, bN, iU (v := .int _) rfl, Fn, cm, dr, aG, bJ, gj, bd, br, aL, az, aI, pJ]
    unfold amongB at h
    by_cases h1 : lo ≤ i
    · simp only [h1, decide_true, bV, az, cr, aI, pJ, bH, au, aG, bJ, gj, jQ, aN, aF, aO]
      simp only [h1, decide_true, Bool.true_and] at h
      exact h
    · simp only [h1, decide_false, bI, au, aG, bJ, gj, bU, aN, aF, aO]
      simp only [h1, decide_false, Bool.false_and] at h
      exact h
  | bool b =>
    simp only [Gi, bE, aQ, bQ, aP, bN, iU (v := .bool _) rfl, Gd, cm, cP, aG, bJ, gj, bU, au, aN, aF, aO]
    exact h
  | obj a => cases hv
  | exn a => cases hv
  | _ => exact h
theorem fM {i lo hi : Int} (h : lo ≤ i ∧ i ≤ hi) : amongB (.int i) lo hi = true := by
  show (decide (lo ≤ i) && decide (i ≤ hi)) = true
  rw [decide_eq_true h.1, decide_eq_true h.2]; rfl
theorem xM {i lo hi : Int} (h : ¬ (lo ≤ i ∧ i ≤ hi)) : amongB (.int i) lo hi = false := by
  show (decide (lo ≤ i) && decide (i ≤ hi)) = false
  by_cases h1 : lo ≤ i
  · rw [decide_eq_true h1, decide_eq_false (fun q => h ⟨h1, q⟩)]; rfl
  · rw [decide_eq_false h1]; rfl
noncomputable def bd4 (a b c e : AV) : Bool := amongB a 1 20 && (match a with | .int i => amongB b 1 i | _ => false) && (amongB c 0 20 && amongB e 0 20)
theorem i44 : ((((0 + 1 + 1 + 1 + 1 : Nat) : Int)) == 4) = true := rfl
theorem nP {a b c e : AV} (ha : cq a = true) (hb : cq b = true) (hc : cq c = true) (he : cq e = true) (h : Q (.bool (bd4 a b c e)) σ) : wpF prg (d + 2) 2 [.tup [a, b, c, e]] σ Q E := by
  refine aT (fi := fn2) rfl rfl ?_
  simp only [fn2, List.map_cons, List.map_nil, Nat.reduceSub, List.replicate_zero, List.cons_append, List.nil_append, w2, ag, bh, fb, aQ, bQ, aP, bN, iU (v := .tup _) rfl, EN, cm, cP, aG, bJ, fc, dr, bE, bd, cH, an, ak, ap, am, cz, xw, List.length_cons, List.length_nil, Nat.reduceAdd, aL, az, e_c, aI, qp, i44, bI, au, aR, aX, aC, aD, bD, Int.le_refl, Int.toNat_zero, List.getElem?_cons_zero, aM, aE, true_and]
  refine dA ha ?_
  unfold bd4 at h
  revert h
  generalize hg : amongB a 1 20 = g
  intro h
  cases g with
  | false =>
    simp only [bN, cm, dr, aG, bJ, fc, cP, bU, au, bv, ag, bA, e_c, aN, aF, aO]
    exact h
  | true =>
    cases a <;> first | cases hg | skip
    rename_i i
    simp only [bN, cm, cP, aG, bJ, fc, dr, bE, dC, au, bg, bc, aj, ag, bh, bQ, aR, an, aX, aP, aC, e_c, aD, bD, Int.reduceLE, Int.toNat_one, List.getElem?_cons_succ, List.getElem?_cons_zero, aM, ak, Int.le_refl, Int.toNat_zero, ap, am, aE, true_and]
    refine dA hb ?_
    revert h
    show Q (.bool (true && amongB b 1 i && _)) σ → _
    generalize amongB b 1 i = g
    intro h
    cases g with
    | false =>
      simp only [bN, cm, dr, aG, bv, ag, bA, e_c, aN, aF, aO]
      exact h
    | true =>
      simp only [bN, cm, cP, aG, bg, bc, aj, ag, bA, fb, aQ, aR, an, aX, aP, aC, e_c, aD, bD, Int.reduceLE, Int.reduceToNat, List.getElem?_cons_succ, List.getElem?_cons_zero, aM, ak, ap, am, aE, true_and]
      refine dA hc ?_
      revert h
      generalize amongB c 0 20 = g
      intro h
      cases g with
      | false =>
        simp only [aG, bJ, gj, bU, au, aN, aF, aO]
        exact h
      | true =>
        simp only [aG, bJ, gj, bE, aQ, aR, an, aX, aP, aC, e_c, aD, bD, Int.reduceLE, Int.reduceToNat, List.getElem?_cons_succ, List.getElem?_cons_zero, aM, ak, ap, am, aE, true_and]
        refine dA he ?_
        simp only [aG, bJ, gj, jQ, au, aN, aF, aO]
        exact h
noncomputable def Bnd (w r m b : Int) : Prop := (1 ≤ w ∧ w ≤ 20) ∧ (1 ≤ r ∧ r ≤ w) ∧ (0 ≤ m ∧ m ≤ 20) ∧ (0 ≤ b ∧ b ≤ 20)
theorem Ar {w r m b : Int} (h : Bnd w r m b) : bd4 (.int w) (.int r) (.int m) (.int b) = true := by
  show (amongB (.int w) 1 20 && amongB (.int r) 1 w && (amongB (.int m) 0 20 && amongB (.int b) 0 20)) = true
  rw [fM h.1, fM h.2.1, fM h.2.2.1, fM h.2.2.2]; rfl
theorem mG {w r m b : Int} (t : Bnd w r m b) (h : Q .none σ) : wpF prg (d + 3) 3 [.tup [.int w, .int r, .int m, .int b]] σ Q E := by
  refine aT (fi := fn3) rfl rfl ?_
  simp only [fn3, List.map_cons, List.map_nil, Nat.reduceSub, List.replicate_zero, List.cons_append, List.nil_append, w3, ag, bh, bQ, aR, an, aP, ak, ap, am, aE]
  refine nP rfl rfl rfl rfl ?_
  rw [Ar t]
  simp only [bN, cm, cP, aG, bg, bc, aj, jt]
  exact h
theorem ya {a b c e : AV} (ha : cq a = true) (hb : cq b = true) (hc : cq c = true) (he : cq e = true) (t : bd4 a b c e = false) (h : E 1 σ) : wpF prg (d + 3) 3 [.tup [a, b, c, e]] σ Q E := by
  refine aT (fi := fn3) rfl rfl ?_
  simp only [fn3, List.map_cons, List.map_nil, Nat.reduceSub, List.replicate_zero, List.cons_append, List.nil_append, w3, ag, bh, bQ, aR, an, aP, ak, ap, am, aE]
  refine nP ha hb hc he ?_
  rw [t]
  simp only [bN, cm, dr, aG, bv, ag, dP, kg]
  exact h
theorem qd {v : AV} (hv : cq v = true) (t : amongB v 1 200 = true) (h : Q .none σ) : wpF prg (d + 2) 4 [v] σ Q E := by
  refine aT (fi := fn4) rfl rfl ?_
  simp only [fn4, List.map_cons, List.map_nil, Nat.reduceSub, List.replicate_zero, List.cons_append, List.nil_append, w4, ag, bh, bQ, aR, an, aP, ak, e_c, ap, am, aE]
  refine dA hv ?_
  rw [t]
  simp only [bN, cm, cP, aG, bg, bc, aj, jt]
  exact h
theorem wK {v : AV} (hv : cq v = true) (t : amongB v 1 200 = false) (h : E 2 σ) : wpF prg (d + 2) 4 [v] σ Q E := by
  refine aT (fi := fn4) rfl rfl ?_
  simp only [fn4, List.map_cons, List.map_nil, Nat.reduceSub, List.replicate_zero, List.cons_append, List.nil_append, w4, ag, bh, bQ, aR, an, aP, ak, e_c, ap, am, aE]
  refine dA hv ?_
  rw [t]
  simp only [bN, cm, dr, aG, bv, ag, dP, kg]
  exact h
theorem il {x : Str} (h : x.length ≤ 1000000) : lQ [.str x] σ Q = Q (.int x.length) σ := propext ⟨fun ⟨_, e, _, q⟩ => by cases e; exact q, fun q => ⟨_, rfl, h, q⟩⟩
theorem As {s : Str} : kn .str (.str s) = true := rfl
noncomputable def S40 (v : AV) : Prop := ∃ s : Str, v = .str s ∧ s.length ≤ 40
noncomputable def Bad (v : AV) : Prop := (cq v = true ∧ kn .str v = false) ∨ ∃ s : Str, v = .str s ∧ 40 < s.length ∧ s.length ≤ 1000000
theorem pS {v : AV} {o p : Option AV} {R : QS} {EE : ES} (hv : S40 v) (h : R .next [p, some v] σ) :
    nh 1 (ad (bY (vBl (aV false (vO1 eX (vO1 (ng .str) (ac 1))) (aV false (bG (vON lQ (aa (ac 1) ar)) (aS cGt (vC (.int 40)) bF)) (cV false)))) (ad (dW 3) ay) ay) ay) EE v [p, o] σ R := by
  obtain ⟨s, rfl, hs⟩ := hv
  have hg : decide ((s.length : Int) > 40) = false := decide_eq_false (by omega)
  simp only [iq, pP, ag, bh, fb, aQ, bQ, br, bN, iU (v := .str _) rfl, As, cm, cP, aG, bJ, fc, dr, bE, bd, cH, an, ak, ap, am, cz, il (show s.length ≤ 1000000 by omega), aL, az, e_c, aI, pH, hg, bI, au, dC, bg, bc, aj]
  exact h
theorem yH {v : AV} {o p : Option AV} {R : QS} {EE : ES} (hv : Bad v) (h : EE 3 [p, some v] σ) :
    nh 1 (ad (bY (vBl (aV false (vO1 eX (vO1 (ng .str) (ac 1))) (aV false (bG (vON lQ (aa (ac 1) ar)) (aS cGt (vC (.int 40)) bF)) (cV false)))) (ad (dW 3) ay) ay) ay) EE v [p, o] σ R := by
  rcases hv with ⟨hp, ht⟩ | ⟨s, rfl, hs, hs'⟩
  · simp only [iq, pP, ag, bh, fb, aQ, bQ, br, bN, iU hp, ht, cm, dr, aG, bJ, fc, cP, bU, au, bv, dP]
    exact h
  · have hg : decide ((s.length : Int) > 40) = true := decide_eq_true (by omega)
    simp only [iq, pP, ag, bh, fb, aQ, bQ, br, bN, iU (v := .str _) rfl, As, cm, cP, aG, bJ, fc, dr, bE, bd, cH, an, ak, ap, am, cz, il hs', aL, az, e_c, aI, pH, hg, bV, cJ, au, bU, bv, dP]
    exact h
theorem si {v : AV} {ts : List AV} (h : dm σ v = some ts) : sJ v σ Q = Q (.bool true) σ := by
  cases v <;> first | cases h | skip
  · exact Ae rfl
  · exact zB (cQ h)
theorem qo {v : AV} {ts : List AV} (h : dm σ v = some ts) : im v ts σ := by
  cases v <;> first | cases h | skip
  · trivial
  · exact cQ h
theorem CF {n : Nat} {A : WS} {ρ : Loc} {QQ : QS} {EE : ES} {v : AV} {ts : List AV} (h : dm σ v = some ts) : ze n A ρ QQ EE v σ = forL (im v ts) (nh n A EE) ts ρ σ QQ := propext ⟨fun ⟨_, e, q⟩ => by rw [h] at e; cases e; exact q, fun q => ⟨_, h, q⟩⟩
theorem vy {v : AV} {ts : List AV} {z : Bool} (h : dm σ v = some ts) : oList z [v] σ Q = mkL z ts σ Q := propext ⟨fun ⟨_, _, e1, e2, q⟩ => by cases e1; rw [h] at e2; cases e2; exact q, fun q => ⟨_, _, rfl, h, q⟩⟩
theorem wD {v : AV} {ts : List AV} (hs : dm σ v = some ts) (hl : ts.length ≤ 400) (ht : ∀ v ∈ ts, S40 v) (h : Q .none σ) : wpF prg (d + 1) 5 [v] σ Q E := by
  refine aT (fi := fn5) rfl rfl ?_
  have hg : decide ((ts.length : Int) > 400) = false := decide_eq_false (by omega)
  simp only [fn5, List.map_cons, List.map_nil, Nat.reduceSub, List.replicate_succ, List.replicate_zero, List.cons_append, List.nil_append, w5, ag, bh, fb, aQ, bQ, aP, bN, si hs, cm, cP, aG, bJ, fc, dr, bE, bd, cH, an, ak, ap, am, cz, uJ hs, aL, az, e_c, aI, pH, hg, bI, au, dC, bg, bc, aj, wW, CF hs]
  refine yU (fun ρ σ' => σ' = σ ∧ ∃ p o, ρ = [p, o]) ts (fun v hv ρ σ' R hi hR => ?_) (fun ρ σ' hi => ?_) _ _ ⟨rfl, _, _, rfl⟩
  · obtain ⟨rfl, p, o, rfl⟩ := hi
    exact ⟨qo hs, pS (ht v hv) (hR _ _ ⟨rfl, _, _, rfl⟩)⟩
  · obtain ⟨rfl, p, o, rfl⟩ := hi
    simp only [aj, bc, jt]
    exact ⟨qo hs, h⟩
theorem wV {G : St → Prop} {B : AV → Loc → St → QS → Prop} {R : QS} (hG : G σ) (good : ∀ v p o R, S40 v → R .next [p, some v] σ → B v [p, o] σ R) {b : AV} {post : List AV} (bad : ∀ p o R, B b [p, o] σ R) : ∀ (pre : List AV), (∀ v ∈ pre, S40 v) → ∀ p o, forL G B (pre ++ b :: post) [p, o] σ R := by
  intro pre
  induction pre with
  | nil => intro _ p o; exact ⟨hG, bad _ _ _⟩
  | cons x xs ih => intro ht p o; exact ⟨hG, good _ _ _ _ (ht x List.mem_cons_self) (ih (fun v hv => ht v (List.mem_cons_of_mem _ hv)) _ _)⟩
theorem vS {pre post : List AV} {b : AV} (hl : (pre ++ b :: post).length ≤ 400) (ht : ∀ v ∈ pre, S40 v) (hb : Bad b) (h : E 3 σ) : wpF prg (d + 1) 5 [.ilist (pre ++ b :: post)] σ Q E := by
  refine aT (fi := fn5) rfl rfl ?_
  have hg : decide (((pre ++ b :: post).length : Int) > 400) = false := decide_eq_false (by omega)
  generalize hts : pre ++ b :: post = ts at hg
  have hs : dm σ (.ilist ts) = some ts := rfl
  simp only [fn5, List.map_cons, List.map_nil, Nat.reduceSub, List.replicate_succ, List.replicate_zero, List.cons_append, List.nil_append, w5, ag, bh, fb, aQ, bQ, aP, bN, si hs, cm, cP, aG, bJ, fc, dr, bE, bd, cH, an, ak, ap, am, cz, uJ hs, aL, az, e_c, aI, pH, hg, bI, au, dC, bg, bc, aj, wW, Bi]
  subst hts
  exact wV trivial (fun v p o R hv hR => pS hv hR) (fun p o R => yH hb h) pre ht _ _
end Ap.L13
end
section
namespace Ap.L13
open PySem
variable {d : Nat} {σ σ' : St} {Q : PQ} {E : PE}
noncomputable abbrev Po (b : Int) (t : Nat) : AObj := .inst 8 [(0, .int b), (1, .obj t)]
theorem sp {a : Nat} {b : Int} (h0 : σ a = some (.inst 8 [])) (h : ∀ t σ', σ t = Option.none → t ≠ a → σ' a = some (Po b t) → σ' t = some (.list []) → (∀ c, c ≠ a → c ≠ t → σ' c = σ c) → Q .none σ') : wpF prg (d + 1) 6 [.obj a, .int b] σ Q E := by
  refine aT (fi := fn6) rfl rfl ?_
  simp only [fn6, List.map_cons, List.map_nil, Nat.reduceSub, List.replicate_zero, List.cons_append, List.nil_append, w6, ag, bM, br, de, aP, cD h0 (f := 0) (by decide : (0 : Nat) < 100), aj, dz, ap, kq]
  rw [show ∀ v : AV, co 0 v [] = [(0, v)] from fun _ => rfl]
  intro t ht
  have ta : t ≠ a := fun q => by rw [q, aq] at ht; cases ht
  rw [cD (by rw [ai _ _ (Ne.symm ta)]; exact aq _ _ _) (h' := ?hh)]
  case hh => exact Nat.le_of_ble_eq_true rfl
  rw [show ∀ v x : AV, co 1 v [(0, x)] = [(0, x), (1, v)] from fun _ _ => rfl]
  simp only [aj, bc, jt]
  refine h t _ (by rw [ai _ _ ta] at ht; exact ht) ta (aq _ _ _) ?_ ?_
  · rw [ai _ _ ta]; exact aq _ _ _
  · intro c h1 h2
    rw [ai _ _ h1, ai _ _ h2, ai _ _ h1]
noncomputable def eH (b : Int) (L : List AV) : Int := if (L.length : Int) - 1 - b > 0 then (L.length : Int) - 1 - b else 0
theorem pa0 {b : Int} {t : Nat} : aW [(0, AV.int b), (1, .obj t)] 0 = some (.int b) := rfl
theorem pa1 {b : Int} {t : Nat} : aW [(0, AV.int b), (1, .obj t)] 1 = some (.obj t) := rfl
theorem sP {a t : Nat} {b : Int} {L : List AV} (h1 : σ a = some (Po b t)) (h2 : σ t = some (.list L)) (h : Q (.int (eH b L)) σ) : wpF prg (d + 1) 7 [.obj a] σ Q E := by
  refine aT (fi := fn7) rfl rfl ?_
  simp only [fn7, List.map_cons, List.map_nil, Nat.reduceSub, List.replicate_zero, List.cons_append, List.nil_append, w7, ag, bA, cH, an, e_c, ak, aX, bQ, aP, bN, bf h1 pa1, ap, am, cz, dE h2, aC, aD, dL, bf h1 pa0, jI, aN, aF, aO]
  exact h
theorem pQ {a t : Nat} {b : Int} {L : List AV} {v : AV} (h1 : σ a = some (Po b t)) (h2 : σ t = some (.list L)) (hl : L.length ≤ 1000) (h : Q (.int L.length) (upd σ t (.list (L ++ [v])))) : wpF prg (d + 1) 8 [.obj a, v] σ Q E := by
  refine aT (fi := fn8) rfl rfl ?_
  have ta : a ≠ t := fun q => by rw [q, h2] at h1; cases h1
  have h3 : upd σ t (.list (L ++ [v])) a = some (Po b t) := by rw [ai _ _ ta]; exact h1
  simp only [fn8, List.map_cons, List.map_nil, Nat.reduceSub, List.replicate_zero, List.cons_append, List.nil_append, w8, ag, bX, lM, bQ, aP, bN, bf h1 pa1, fH (rc := rcL) (v := .obj t) (σ := σ) ⟨_, _, rfl, h2⟩, an, br, ak, ap, am, eE, dy h2 (show L.length ≤ 1000000 by omega), cA, aj, bA, aX, cH, bf h3 pa1, cz, dE (aq σ t _), aC, e_c, aD, dL, aN, aF, aO]
  rw [List.length_append, show (((L.length + [v].length : Nat) : Int) - 1) = L.length by simp only [List.length_cons, List.length_nil]; omega]
  exact h
theorem Cq {b : Int} {L : List AV} (hb : 0 ≤ b) : 0 ≤ eH b L ∧ eH b L ≤ L.length := by
  unfold eH
  split <;> omega
theorem qm {a t : Nat} {b n : Int} {L : List AV} {v : AV} (hb : 0 ≤ b) (h1 : σ a = some (Po b t)) (h2 : σ t = some (.list L)) (hn : eH b L ≤ n ∧ n < L.length) (hv : L[n.toNat]? = some v) (h : Q v σ) : wpF prg (d + 2) 10 [.obj a, .int n] σ Q E := by
  refine aT (fi := wc) rfl rfl ?_
  have f := Cq (b := b) (L := L) hb
  simp only [wc, List.map_cons, List.map_nil, Nat.reduceSub, List.replicate_zero, List.cons_append, List.nil_append, w10, ag, bh, bQ, aR, an, br, ak, eA, aP, dD h1 (m := 25) rfl, ap, cF]
  refine sP h1 h2 ?_
  simp only [ak, an, aX, cH, bQ, aP, bN, bf h1 pa1, ap, am, cz, dE h2, aC, e_c, aD, dL, aE]
  refine dA rfl ?_
  rw [fM ⟨hn.1, by omega⟩]
  simp only [bN, cm, cP, aG, bg, bc, aj, ag, bA, aX, bQ, aP, bf h1 pa1, aC, br, aD, rY h2, hv, aM, aN, aF, aO]
  exact ⟨by omega, h⟩
theorem sN {a t : Nat} {b : Int} {L : List AV} {v : AV} (hp : cq v = true) (h1 : σ a = some (Po b t)) (h2 : σ t = some (.list L)) (hn : amongB v (eH b L) (L.length - 1) = false) (h : E 6 σ) : wpF prg (d + 2) 10 [.obj a, v] σ Q E := by
  refine aT (fi := wc) rfl rfl ?_
  simp only [wc, List.map_cons, List.map_nil, Nat.reduceSub, List.replicate_zero, List.cons_append, List.nil_append, w10, ag, bh, bQ, aR, an, br, ak, eA, aP, dD h1 (m := 25) rfl, ap, cF]
  refine sP h1 h2 ?_
  simp only [ak, an, aX, cH, bQ, aP, bN, bf h1 pa1, ap, am, cz, dE h2, aC, e_c, aD, dL, aE]
  refine dA hp ?_
  rw [hn]
  simp only [bN, cm, dr, aG, bv, ag, dP, kg]
  exact h
noncomputable abbrev S (w r m b t : Int) : AObj := .inst 9 [(2, .int w), (3, .int r), (4, .int m), (5, .int b), (6, .int t)]
theorem xW {a : Nat} {w r m : Int} (h0 : σ a = some (.inst 9 [])) (h : ∀ σ', σ' a = some (S w r m 0 0) → (∀ b, b ≠ a → σ' b = σ b) → Q .none σ') : wpF prg (d + 1) 11 [.obj a, .int w, .int r, .int m] σ Q E := by
  refine aT (fi := zi) rfl rfl ?_
  simp only [zi, List.map_cons, List.map_nil, Nat.reduceSub, List.replicate_zero, List.cons_append, List.nil_append, w11, ag, bM, br, de, aP, cD h0 (f := 2) (by decide : (0 : Nat) < 100), aj, cr]
  rw [show ∀ v : AV, co 2 v [] = [(2, v)] from fun _ => rfl, cD (aq _ _ _) (h' := ?hh)]
  case hh => exact Nat.le_of_ble_eq_true rfl
  simp only [aj, ag, bM, dO, de, aP]
  rw [show ∀ v x : AV, co 3 v [(2, x)] = [(2, x), (3, v)] from fun _ _ => rfl, cD (aq _ _ _) (h' := ?hh)]
  case hh => exact Nat.le_of_ble_eq_true rfl
  simp only [aj, ag, bM, e_c, de, aP]
  rw [show ∀ v x y : AV, co 4 v [(2, x), (3, y)] = [(2, x), (3, y), (4, v)] from fun _ _ _ => rfl, cD (aq _ _ _) (h' := ?hh)]
  case hh => exact Nat.le_of_ble_eq_true rfl
  simp only [aj, ag, bM, e_c, de, aP]
  rw [show ∀ v x y z : AV, co 5 v [(2, x), (3, y), (4, z)] = [(2, x), (3, y), (4, z), (5, v)] from fun _ _ _ _ => rfl, cD (aq _ _ _) (h' := ?hh)]
  case hh => exact Nat.le_of_ble_eq_true rfl
  refine h _ (aq _ _ _) fun b hb => ?_
  simp only [ai _ _ hb]
theorem sl0 {a b c d e : AV} : aW [(2, a), (3, b), (4, c), (5, d), (6, e)] 2 = some a := rfl
theorem sl1 {a b c d e : AV} : aW [(2, a), (3, b), (4, c), (5, d), (6, e)] 3 = some b := rfl
theorem sl2 {a b c d e : AV} : aW [(2, a), (3, b), (4, c), (5, d), (6, e)] 4 = some c := rfl
theorem sl3 {a b c d e : AV} : aW [(2, a), (3, b), (4, c), (5, d), (6, e)] 5 = some d := rfl
theorem sl4 {a b c d e : AV} : aW [(2, a), (3, b), (4, c), (5, d), (6, e)] 6 = some e := rfl
theorem sp3 {a b c d e v : AV} : co 5 v [(2, a), (3, b), (4, c), (5, d), (6, e)] = [(2, a), (3, b), (4, c), (5, v), (6, e)] := rfl
theorem sp4 {a b c d e v : AV} : co 6 v [(2, a), (3, b), (4, c), (5, d), (6, e)] = [(2, a), (3, b), (4, c), (5, d), (6, v)] := rfl
theorem zt {a : Nat} {w r m b t : Int} (h0 : σ a = some (S w r m b t)) (h : Q (.tup [.int b, .int t]) σ) : wpF prg (d + 1) 12 [.obj a] σ Q E := by
  refine aT (fi := zM) rfl rfl ?_
  simp only [zM, List.map_cons, List.map_nil, Nat.reduceSub, List.replicate_zero, List.cons_append, List.nil_append, w12, ag, bA, dh, an, bQ, aP, bN, bf h0 sl3, ak, bf h0 sl4, ap, am, cn, aN, aF, aO]
  exact h
noncomputable def hrd (r b t n : Int) : Int := if b + (n - b).fmod r ≤ t then b + (n - b).fmod r else b
theorem yD {a : Nat} {w r m b t n : Int} (h0 : σ a = some (S w r m b t)) (hr : r ≠ 0) (h : ∀ σ', σ' a = some (S w r m (hrd r b t n) t) → (∀ c, c ≠ a → σ' c = σ c) → Q .none σ') : wpF prg (d + 1) 14 [.obj a, .int n] σ Q E := by
  refine aT (fi := Ac) rfl rfl ?_
  unfold hrd at h
  simp only [Ac, List.map_cons, List.map_nil, Nat.reduceSub, List.replicate_succ, List.replicate_zero, List.cons_append, List.nil_append, w14, ag, aH, aX, br, aC, bQ, aP, bN, bf h0 sl3, aD, dL, bf h0 sl1, bR, ne_eq, hr, not_false_eq_true, bw, lW, aj, bh, bd, cr, cf, aL, az, bf h0 sl4, aI, pJ, bH, au, aG, true_and]
  by_cases hc : b + (n - b).fmod r ≤ t
  · simp only [hc, decide_true, bv, ag, bM, aX, bQ, aP, bN, bf h0 sl3, aC, cr, aD, cf, de, cD h0 (f := 5) (by decide : (5 : Nat) < 100), sp3, aj, bc, jt]
    exact h _ (by rw [if_pos hc]; exact aq _ _ _) fun c hcc => ai _ _ hcc
  · simp only [hc, decide_false, bg, bc, aj, jt]
    exact h _ (by rw [if_neg hc]; exact h0) fun c _ => rfl
noncomputable def dw (w m b t : Int) : Int := if b + w - 1 < t then (if m - 1 < b + w - 1 then m - 1 else b + w - 1) else (if m - 1 < t then m - 1 else t)
theorem vF {a : Nat} {w r m b t : Int} {v : AV} (h0 : σ a = some (S w r m b t)) (hv : cq v = true) (no : amongB v b (dw w m b t) = false → E 5 σ)
    (yes : ∀ k, v = .int k → amongB v b (dw w m b t) = true → r ≠ 0 ∧ ∀ σ', σ' a = some (S w r m b (if k = t then k + 1 else t)) → (∀ c, c ≠ a → σ' c = σ c) → Q (.int (k.fmod r)) σ') : wpF prg (d + 2) 13 [.obj a, v] σ Q E := by
  refine aT (fi := AG) rfl rfl ?_
  simp only [AG, List.map_cons, List.map_nil, Nat.reduceSub, List.replicate_succ, List.replicate_zero, List.cons_append, List.nil_append, w13, ag, aH, cH, an, bQ, aP, bN, bf h0 sl4, ak, aX, bf h0 sl3, aC, bf h0 sl0, aD, cf, e_c, dL, bf h0 sl2, ap, am, cz, CP, bw, lW, aj, bh, aR, br, cr, aE]
  refine dA hv ?_
  simp only [bN, cm, aG]
  unfold dw at no yes
  revert no yes
  generalize hg : amongB v b _ = g
  intro no yes
  cases g with
  | false => exact no rfl
  | true =>
    cases v <;> first | cases hg | skip
    rename_i k
    obtain ⟨hr, yes⟩ := yes k rfl rfl
    simp only [cP, bg, bc, aj, ag, bh, bd, br, aL, az, bQ, aP, bN, bf h0 sl4, aI, iO, bH, au, aG]
    by_cases hc : k = t
    · subst hc
      simp only [beq_self_eq_true, bv, ag, bM, aX, br, aC, e_c, aD, cf, de, aP, cD h0 (f := 6) (by decide : (5 : Nat) < 100), sp4, aj, bc, bA, bQ, bN, bf (aq _ _ _) sl1, bR, ne_eq, hr, not_false_eq_true, aN, aF, aO, true_and]
      exact yes _ (by rw [if_pos rfl]; exact aq _ _ _) fun c hcc => ai _ _ hcc
    · simp only [show (k == t) = false from beq_eq_false_iff_ne.mpr hc, bg, bc, aj, ag, bA, aX, br, aC, bQ, aP, bN, bf h0 sl1, aD, bR, ne_eq, hr, not_false_eq_true, aN, aF, aO, true_and]
      exact yes _ (by rw [if_neg hc]; exact h0) fun c _ => rfl
theorem zV {a : Nat} {w r m b t : Int} {v : AV} (h0 : σ a = some (S w r m b t)) (hv : cq v = true) (hn : amongB v b (dw w m b t) = false) (h : E 5 σ) : wpF prg (d + 2) 13 [.obj a, v] σ Q E :=
  vF h0 hv (fun _ => h) fun k e q => by rw [hn] at q; cases q
theorem yN {a : Nat} {w r m b t k : Int} (h0 : σ a = some (S w r m b t)) (hr : r ≠ 0) (hn : amongB (.int k) b (dw w m b t) = true) (h : ∀ σ', σ' a = some (S w r m b (if k = t then k + 1 else t)) → (∀ c, c ≠ a → σ' c = σ c) → Q (.int (k.fmod r)) σ') :
    wpF prg (d + 2) 13 [.obj a, .int k] σ Q E :=
  vF h0 rfl (fun q => by rw [hn] at q; cases q) fun k' e q => by cases e; exact ⟨hr, h⟩
noncomputable abbrev Tk (r g p : Int) (o e : Nat) : AObj := .inst 10 [(7, .int r), (3, .int g), (8, .int p), (9, .obj o), (10, .obj e)]
theorem yI {a : Nat} {r g : Int} (h0 : σ a = some (.inst 10 [])) (h : ∀ o e σ', (o ≠ a ∧ e ≠ a ∧ o ≠ e ∧ σ o = Option.none ∧ σ e = Option.none) → σ' a = some (Tk r g 0 o e) → σ' o = some (.list []) → σ' e = some (.dictI []) → (∀ b, b ≠ a → b ≠ o → b ≠ e → σ' b = σ b) → Q .none σ') : wpF prg (d + 1) 15 [.obj a, .int r, .int g] σ Q E := by
  refine aT (fi := zD) rfl rfl ?_
  simp only [zD, List.map_cons, List.map_nil, Nat.reduceSub, List.replicate_zero, List.cons_append, List.nil_append, w15, ag, bM, br, de, aP, cD h0 (f := 7) (by decide : (0 : Nat) < 100), aj, cr]
  rw [show ∀ v : AV, co 7 v [] = [(7, v)] from fun _ => rfl, cD (aq _ _ _) (h' := ?hh)]
  case hh => exact Nat.le_of_ble_eq_true rfl
  simp only [aj, ag, bM, e_c, de, aP]
  rw [show ∀ v x : AV, co 3 v [(7, x)] = [(7, x), (3, v)] from fun _ _ => rfl, cD (aq _ _ _) (h' := ?hh)]
  case hh => exact Nat.le_of_ble_eq_true rfl
  simp only [aj, ag, bM, dz, ap, kq, de, aP]
  rw [show ∀ v x y : AV, co 8 v [(7, x), (3, y)] = [(7, x), (3, y), (8, v)] from fun _ _ _ => rfl]
  intro o ho
  have oa : o ≠ a := fun q => by rw [q, aq] at ho; cases ho
  rw [cD (by rw [ai _ _ (Ne.symm oa)]; exact aq _ _ _) (h' := ?hh)]
  case hh => exact Nat.le_of_ble_eq_true rfl
  simp only [aj, ag, bM, xZ, de, aP]
  rw [show ∀ v x y z : AV, co 9 v [(7, x), (3, y), (8, z)] = [(7, x), (3, y), (8, z), (9, v)] from fun _ _ _ _ => rfl]
  intro e he
  have ea : e ≠ a := fun q => by rw [q, aq] at he; cases he
  have eo : o ≠ e := fun q => by rw [← q, ai _ _ oa, aq] at he; cases he
  rw [cD (by rw [ai _ _ (Ne.symm ea)]; exact aq _ _ _) (h' := ?hh)]
  case hh => exact Nat.le_of_ble_eq_true rfl
  rw [show ∀ v x y z u : AV, co 10 v [(7, x), (3, y), (8, z), (9, u)] = [(7, x), (3, y), (8, z), (9, u), (10, v)] from fun _ _ _ _ _ => rfl]
  refine h o e _ ⟨oa, ea, eo, ?_, ?_⟩ (aq _ _ _) ?_ ?_ fun b ba bo be => ?_
  · rw [ai _ _ oa, ai _ _ oa, ai _ _ oa] at ho; exact ho
  · rw [ai _ _ ea, ai _ _ (Ne.symm eo), ai _ _ ea, ai _ _ ea, ai _ _ ea] at he; exact he
  · rw [ai _ _ oa, ai _ _ eo, ai _ _ oa]; exact aq _ _ _
  · rw [ai _ _ ea]; exact aq _ _ _
  · simp only [ai _ _ ba, ai _ _ bo, ai _ _ be]
noncomputable def drain : Nat → Int → List (Int × AV) → List AV → Int × List (Int × AV) × List AV
  | 0, p, D, G => (p, D, G)
  | n + 1, p, D, G => ((aW D p).map fun v => drain n (p + 1) (eY p D) (G ++ [v])).getD (p, D, G)
theorem gX {n : Nat} {p : Int} {D : List (Int × AV)} {G : List AV} (h : aW D p = Option.none) : drain n p D G = (p, D, G) := by
  cases n with
  | zero => rfl
  | succ n => unfold drain; rw [h]; rfl
theorem gZ {n : Nat} {p : Int} {D : List (Int × AV)} {G : List AV} {v : AV} (h : aW D p = some v) : drain (n + 1) p D G = drain n (p + 1) (eY p D) (G ++ [v]) := by
  rw [drain, h]; rfl
theorem qH {D : List (Int × AV)} {k : Int} {v : AV} (h : aW D k = some v) : (eY k D).length + 1 ≤ D.length := by
  unfold aW at h
  obtain ⟨p, hp, _⟩ := Option.map_eq_some_iff.mp h
  have hm := List.mem_of_find?_eq_some hp
  have hk := List.find?_some hp
  unfold eY
  have := List.length_filter_lt_length_iff_exists (l := D) (p := fun e => decide (e.1 ≠ k)) |>.mpr ⟨p, hm, by simpa using hk⟩
  omega
theorem sb {D : List (Int × AV)} {k : Int} (h : aW D k = Option.none) : jT D k = false := by unfold jT; rw [h]; rfl
theorem sK {D : List (Int × AV)} {k : Int} {v : AV} (h : aW D k = some v) : jT D k = true := by unfold jT; rw [h]; rfl
noncomputable def sB : WE := (bG (vO1 (bq 10 8) (ac 0)) (aS wC (vO1 (bq 10 10) (ac 0)) bF))
noncomputable def vf : WS := (ad (cM (vBm rcL cb (vO1 (bq 10 9) (ac 0)) (aa (vBm rcD sR (vO1 (bq 10 10) (ac 0)) (aa (vO1 (bq 10 8) (ac 0)) ar)) ar))) (ad (bB (ac 0) 10 8 (vO2 bZ (vO1 (bq 10 8) (ac 0)) (vC (.int 1)))) ay))
theorem BF {QQ : QS} {EE : ES} {t o e : Nat} {r g : Int} (h1 : o ≠ t) (h2 : e ≠ t) (h3 : o ≠ e) {x1 x2 x3 : Option AV} : ∀ (n : Nat) (p : Int) (D : List (Int × AV)) (G : List AV) (σ : St), D.length ≤ n → G.length + D.length ≤ 1000 → σ t = some (Tk r g p o e) → σ o = some (.list G) → σ e = some (.dictI D) →
    (∀ σ', σ' t = some (Tk r g (drain n p D G).1 o e) → σ' o = some (.list (drain n p D G).2.2) → σ' e = some (.dictI (drain n p D G).2.1) → (∀ b, b ≠ t → b ≠ o → b ≠ e → σ' b = σ b) → QQ .next [some (.obj t), x1, x2, x3] σ') →
    whN sB vf EE (n + 1) [some (.obj t), x1, x2, x3] σ QQ := by
  intro n
  induction n with
  | zero =>
    intro p D G σ hl hs ht ho he h
    have hD : D = [] := List.length_eq_zero_iff.mp (Nat.le_zero.mp hl)
    subst hD
    rw [pZ]
    unfold sB
    simp only [bd, bQ, aP, bN, bf ht (f := 8) (v := .int p) rfl, aL, az, bf ht (f := 10) (v := .obj e) rfl, aI, vh he, bH, au, aG]
    rw [show jT ([] : List (Int × AV)) p = false from rfl, pg]
    exact h σ ht ho he fun _ _ _ _ => rfl
  | succ n ih =>
    intro p D G σ hl hs ht ho he h
    rw [pZ]
    unfold sB
    simp only [bd, bQ, aP, bN, bf ht (f := 8) (v := .int p) rfl, aL, az, bf ht (f := 10) (v := .obj e) rfl, aI, vh he, bH, au, aG]
    cases hv : aW D p with
    | none =>
      rw [gX hv] at h
      rw [sb hv, pg]
      exact h σ ht ho he fun _ _ _ _ => rfl
    | some v =>
      rw [gZ hv] at h
      have hd := qH hv
      rw [sK hv, tZ]
      have ht1 : upd σ e (.dictI (eY p D)) t = some (Tk r g p o e) := by rw [ai _ _ (Ne.symm h2)]; exact ht
      have ho1 : upd σ e (.dictI (eY p D)) o = some (.list G) := by rw [ai _ _ h3]; exact ho
      have ht2 : upd (upd σ e (.dictI (eY p D))) o (.list (G ++ [v])) t = some (Tk r g p o e) := by rw [ai _ _ (Ne.symm h1)]; exact ht1
      rw [show vf = (ad (cM (vBm rcL cb (vO1 (bq 10 9) (ac 0)) (aa (vBm rcD sR (vO1 (bq 10 10) (ac 0)) (aa (vO1 (bq 10 8) (ac 0)) ar)) ar))) (ad (bB (ac 0) 10 8 (vO2 bZ (vO1 (bq 10 8) (ac 0)) (vC (.int 1)))) ay)) from rfl]
      simp only [ag, bX, lM, bQ, aP, bN, bf ht (f := 9) (v := .obj o) rfl, fH (rc := rcL) (v := .obj o) (σ := σ) ⟨_, _, rfl, ho⟩, an, bf ht (f := 10) (v := .obj e) rfl, fH (rc := rcD) (v := .obj e) (σ := σ) ⟨_, _, rfl, he⟩, bf ht (f := 8) (v := .int p) rfl, ak, ap, am, eE, Bl he hv (by omega), dy ho1 (by omega), cA, aj, bM, aX, bf ht2 (f := 8) (v := .int p) rfl, aC, e_c, aD, cf, de, cD ht2 (show 5 < 100 by decide), bc, oj]
      refine ih (p + 1) (eY p D) (G ++ [v]) _ (by omega) (by rw [List.length_append]; simp; omega) ?_ ?_ ?_ fun σ' a1 a2 a3 a4 => h σ' a1 a2 a3 fun b b1 b2 b3 => ?_
      · exact aq _ _ _
      · rw [ai _ _ h1]; exact aq _ _ _
      · rw [ai _ _ h2, ai _ _ (Ne.symm h3)]; exact aq _ _ _
      · rw [a4 b b1 b2 b3, ai _ _ b1, ai _ _ b2, ai _ _ b3]
noncomputable def dv (r g n p : Int) (x : AV) (D : List (Int × AV)) : List (Int × AV) :=
  if (n - p).fmod g < r then (if jT D (p + (n - p).fmod g) then D else co (p + (n - p).fmod g) x D) else D
theorem zG (k : Int) (v : AV) (D : List (Int × AV)) : (co k v D).length ≤ D.length + 1 := mY k v D
theorem lV (r g n p : Int) (x : AV) (D : List (Int × AV)) : (dv r g n p x D).length ≤ D.length + 1 := by
  unfold dv
  split
  · split
    · omega
    · exact zG _ _ _
  · omega
theorem zK {t o e : Nat} {r g p n : Int} {x : AV} {D : List (Int × AV)} {G : List AV} (h1 : o ≠ t) (h2 : e ≠ t) (h3 : o ≠ e) (hg : g ≠ 0) (hs : G.length + D.length ≤ 900) (ht : σ t = some (Tk r g p o e)) (ho : σ o = some (.list G)) (he : σ e = some (.dictI D))
    (h : ∀ σ' p' D' G', drain (dv r g n p x D).length p (dv r g n p x D) G = (p', D', G') → σ' t = some (Tk r g p' o e) → σ' o = some (.list G') → σ' e = some (.dictI D') → (∀ b, b ≠ t → b ≠ o → b ≠ e → σ' b = σ b) → Q (.int (p'.fmod g)) σ') : wpF prg (d + 1) 16 [.obj t, .int n, x] σ Q E := by
  refine aT (fi := zP) rfl rfl ?_
  have fin : ∀ σ₁, σ₁ t = some (Tk r g p o e) → σ₁ o = some (.list G) → σ₁ e = some (.dictI (dv r g n p x D)) → (∀ b, b ≠ e → σ₁ b = σ b) → ∀ x1 x2 x3, whN sB vf (eFn E) ((dv r g n p x D).length + 1) [some (.obj t), x1, x2, x3] σ₁ (vL (ad (bP (vO2 bK (vO1 (bq 10 8) (ac 0)) (vO1 (bq 10 3) (ac 0)))) ay) (kFn Q) (eFn E)) := by
    intro σ₁ t1 o1 e1 k1 x1 x2 x3
    have := lV r g n p x D
    refine BF h1 h2 h3 _ p _ G σ₁ (Nat.le_refl _) (by omega) t1 o1 e1 fun σ' a1 a2 a3 a4 => ?_
    simp only [aj, ag, bA, aX, bQ, aP, bN, bf a1 (f := 8) (v := .int (drain (dv r g n p x D).length p (dv r g n p x D) G).1) rfl, aC, bf a1 (f := 3) (v := .int g) rfl, aD, bR, ne_eq, hg, not_false_eq_true, aN, aF, aO, true_and]
    exact h σ' _ _ _ rfl a1 a2 a3 fun b b1 b2 b3 => (a4 b b1 b2 b3).trans (k1 b b3)
  unfold sB vf at fin
  simp only [zP, List.map_cons, List.map_nil, Nat.reduceSub, List.replicate_succ, List.replicate_zero, List.cons_append, List.nil_append, w16, ag, aH, aX, br, aC, bQ, aP, bN, bf ht (f := 8) (v := .int p) rfl, aD, dL, bf ht (f := 3) (v := .int g) rfl, bR, ne_eq, hg, not_false_eq_true, bw, mZ, aj, bh, fb, aQ, bd, dO, aL, az, bf ht (f := 7) (v := .int r) rfl, aI, wp, bH, au, aG, bJ, gj, true_and]
  unfold dv at fin
  by_cases c1 : (n - p).fmod g < r
  · rw [if_pos c1] at fin
    simp only [c1, decide_true, bE, aQ, bd, aX, bQ, aP, bN, bf ht (f := 8) (v := .int p) rfl, aC, dO, aD, cf, aL, az, bf ht (f := 10) (v := .obj e) rfl, aI, yE he, bH, au, aG, bJ, gj, jQ]
    cases c2 : jT D (p + (n - p).fmod g) with
    | true =>
      rw [if_pos c2] at fin
      simp only [cP, bg, bc, aj, ag, oN]
      exact ⟨_, fin σ ht ho he (fun _ _ => rfl) _ _ _⟩
    | false =>
      rw [if_neg (by rw [c2]; exact Bool.false_ne_true)] at fin
      simp only [dr, bv, ag, yk, cr, mJ, bQ, aP, bN, bf ht (f := 10) (v := .obj e) rfl, mi, aX, bf ht (f := 8) (v := .int p) rfl, aC, dO, aD, cf, wR he (show D.length ≤ 1000000 by omega), aj, bc, oN]
      exact ⟨_, fin _ (by rw [ai _ _ (Ne.symm h2)]; exact ht) (by rw [ai _ _ h3]; exact ho) (aq _ _ _) (fun b hb => ai _ _ hb) _ _ _⟩
  · rw [if_neg c1] at fin
    simp only [c1, decide_false, bU, au, aG, bg, bc, aj, ag, oN]
    exact ⟨_, fin σ ht ho he (fun _ _ => rfl) _ _ _⟩
end Ap.L13
end
section
namespace Ap.L13
open PySem
variable {d : Nat} {σ σ' : St} {Q : PQ} {E : PE}
theorem eI {a b : Str} {K : Bool → Prop} : cEq (.str a) (.str b) σ K = K (a == b) := BN (p := .str a) (q := .str b) rfl rfl
noncomputable def Ws : List Str := [Str.ofString "send", Str.ofString "hand", Str.ofString "tell"]
theorem Gb : qU [.str (Str.ofString "send"), .str (Str.ofString "hand"), .str (Str.ofString "tell")] = some [Str.ofString "send", Str.ofString "hand", Str.ofString "tell"] := rfl
theorem CB {x : Str} {ys : List AV} {ss : List Str} {K : Bool → Prop} (h : qU ys = some ss) : xr (.str x) (.tup ys) σ K = K (ss.any (· == x)) := propext ⟨fun ⟨_, _, _, e1, e2, e3, q⟩ => by cases e1; cases e2; rw [h] at e3; cases e3; exact q, fun q => ⟨_, _, _, rfl, rfl, h, q⟩⟩
noncomputable def sg (a b : AV) : Bool := match a with
  | .str x => Ws.any (· == x) && amongB b 0 999999
  | _ => false
theorem i22 : ((((0 + 1 + 1 : Nat) : Int)) == 2) = true := rfl
theorem tm {a b : AV} (ha : cq a = true) (hb : cq b = true) (h : Q (.bool (sg a b)) σ) : wpF prg (d + 2) 20 [.tup [a, b]] σ Q E := by
  refine aT (fi := AH) rfl rfl ?_
  simp only [AH, List.map_cons, List.map_nil, Nat.reduceSub, List.replicate_zero, List.cons_append, List.nil_append, w20, ag, bh, fb, aQ, bQ, aP, bN, iU (v := .tup _) rfl, EN, cm, cP, aG, bJ, fc, dr, bE, bd, cH, an, ak, ap, am, cz, xw, List.length_cons, List.length_nil, Nat.reduceAdd, aL, az, e_c, aI, qp, i22, bI, au, aX, aC, aD, bD, Int.le_refl, Int.toNat_zero, List.getElem?_cons_zero, aM, iU ha, zT, true_and]
  cases a with
  | str x =>
    simp only [As, cP, bg, bc, aj, ag, bA, fb, aQ, bd, aX, aP, aC, e_c, aD, bD, Int.le_refl, Int.toNat_zero, List.getElem?_cons_zero, aM, aL, az, aI, CB Gb, bH, au, aG, bJ, gj, true_and]
    have h' : Q (.bool (([Str.ofString "send", Str.ofString "hand", Str.ofString "tell"].any (· == x)) && amongB b 0 999999)) σ := h
    revert h'
    generalize ([Str.ofString "send", Str.ofString "hand", Str.ofString "tell"].any (· == x)) = g
    intro h'
    cases g with
    | false =>
      simp only [bU, au, aN, aF, aO]
      exact h'
    | true =>
      simp only [bE, aQ, aR, an, aX, aP, aC, e_c, aD, bD, Int.reduceLE, Int.toNat_one, List.getElem?_cons_succ, List.getElem?_cons_zero, aM, ak, ap, am, aE, true_and]
      refine dA hb ?_
      simp only [aG, bJ, gj, jQ, au, aN, aF, aO]
      exact h'
  | obj a => cases ha
  | exn a => cases ha
  | _ => exact h
noncomputable def Told (v : AV) (σ : St) (b : Bool) : Prop := ∀ (d : Nat) (Q : PQ) (E : PE), Q (.bool b) σ → wpF prg (d + 2) 20 [v] σ Q E
theorem pX {a b : AV} {x : Bool} (ha : cq a = true) (hb : cq b = true) (hx : sg a b = x) : Told (.tup [a, b]) σ x := fun d Q E h => tm ha hb (hx ▸ h)
theorem ws_any {x : Str} : Ws.any (· == x) = true ↔ x ∈ Ws := by
  rw [List.any_eq_true]
  constructor
  · rintro ⟨y, hy, e⟩; rw [← beq_iff_eq.mp e]; exact hy
  · intro h; exact ⟨x, h, beq_self_eq_true _⟩
theorem jP {x : Str} {i : Int} (h : x ∈ Ws) (hi : 0 ≤ i ∧ i ≤ 999999) : sg (.str x) (.int i) = true := by
  show (Ws.any (· == x) && amongB (.int i) 0 999999) = true
  rw [ws_any.mpr h, fM hi]; rfl
theorem fh {v : AV} (t : Told v σ true) (h : Q .none σ) : wpF prg (d + 3) 21 [v] σ Q E := by
  refine aT (fi := Ak) rfl rfl ?_
  simp only [Ak, List.map_cons, List.map_nil, Nat.reduceSub, List.replicate_zero, List.cons_append, List.nil_append, w21, ag, bh, bQ, aR, an, aP, ak, ap, am, aE]
  refine t _ _ _ ?_
  simp only [bN, cm, cP, aG, bg, bc, aj, jt]
  exact h
theorem wS : Str.ofString "send" ∈ Ws := List.mem_cons_self
theorem wH : Str.ofString "hand" ∈ Ws := List.mem_cons_of_mem _ List.mem_cons_self
theorem wT : Str.ofString "tell" ∈ Ws := List.mem_cons_of_mem _ (List.mem_cons_of_mem _ List.mem_cons_self)
theorem qHS : (Str.ofString "hand" == Str.ofString "send") = false := by decide +kernel
theorem qTS : (Str.ofString "tell" == Str.ofString "send") = false := by decide +kernel
theorem qTH : (Str.ofString "tell" == Str.ofString "hand") = false := by decide +kernel
structure Pm where
  w : Int
  r : Int
  m : Int
  b : Int
  g : Int
  ts : List AV
structure RA where
  u : Nat
  s : Nat
  k : Nat
  o : Nat
  e : Nat
  f : Nat
  ft : Nat
  bk : Nat
  bt : Nat
structure Mo where
  base : Int
  top : Int
  place : Int
  own : List AV
  early : List (Int × AV)
  F : List AV
  G : List AV
noncomputable abbrev Ru (A : RA) (P : Pm) : AObj := .inst 11 [(11, .tup [.int P.w, .int P.r, .int P.m, .int P.b]), (3, .int P.g), (12, .ilist P.ts), (13, .obj A.s), (14, .obj A.k), (15, .obj A.f), (16, .obj A.bk)]
structure Rn (A : RA) (P : Pm) (M : Mo) (σ : St) : Prop where
  u : σ A.u = some (Ru A P)
  s : σ A.s = some (S P.w P.g P.ts.length M.base M.top)
  k : σ A.k = some (Tk P.r P.g M.place A.o A.e)
  o : σ A.o = some (.list M.own)
  e : σ A.e = some (.dictI M.early)
  f : σ A.f = some (Po P.m A.ft)
  ft : σ A.ft = some (.list M.F)
  bk : σ A.bk = some (Po P.b A.bt)
  bt : σ A.bt = some (.list M.G)
structure Ds (A : RA) : Prop where
  d1 : A.o ≠ A.ft
  d2 : A.o ≠ A.bt
  d3 : A.ft ≠ A.bt
noncomputable def RA.mut (A : RA) : List Nat := [A.s, A.k, A.o, A.e, A.ft, A.bt]
variable {A : RA} {P : Pm} {M : Mo}
theorem aU {a b : Nat} {x y : AObj} (h1 : σ a = some x) (h2 : σ b = some y) (h : x ≠ y) : a ≠ b := fun q => by rw [q, h2] at h1; exact h (Option.some.inj h1).symm
theorem keep {a c : Nat} {o x : AObj} (h : σ a = some o) (hc : σ c = Option.none) : upd σ c x a = some o := by rw [ai _ _ (cT h hc)]; exact h
theorem Rn.same (R : Rn A P M σ) (k : ∀ c, σ c ≠ Option.none → σ' c = σ c) : Rn A P M σ' := by
  have k' : ∀ {c o}, σ c = some o → σ' c = some o := fun {c o} h => (k c (by rw [h]; intro q; cases q)).trans h
  exact ⟨k' R.u, k' R.s, k' R.k, k' R.o, k' R.e, k' R.f, k' R.ft, k' R.bk, k' R.bt⟩
theorem Rn.fresh (R : Rn A P M σ) {c : Nat} {x : AObj} (hc : σ c = Option.none) : Rn A P M (upd σ c x) := R.same fun a h => ai _ _ fun q => h (q ▸ hc)
theorem uY (σ : St) (a : Nat) (x y : AObj) : upd (upd σ a x) a y = upd σ a y := funext fun b => by
  by_cases h : b = a
  · subst h; rw [aq, aq]
  · rw [ai _ _ h, ai _ _ h, ai _ _ h]
theorem yR {v : AV} {ts : List AV} {u : Nat} {n : Nat} {fs gs : List (Nat × AV)} (hu : σ u = some (.inst n fs)) (h : dm σ v = some ts) : dm (upd σ u (.inst n gs)) v = some ts := by
  cases v <;> first | cases h | skip
  · rfl
  · have := cQ h
    show (match upd σ u (.inst n gs) _ with | some (.list xs) => some xs | _ => Option.none) = some ts
    rw [ai _ _ (fun q => by rw [q, hu] at this; cases this), this]
theorem yo {u : Nat} {v : AV} {P : Pm} (h0 : σ u = some (.inst 11 [])) (hb : Bnd P.w P.r P.m P.b) (hg : 1 ≤ P.g ∧ P.g ≤ 200) (hs : dm σ v = some P.ts) (hl : P.ts.length ≤ 400) (ht : ∀ x ∈ P.ts, S40 x)
    (h : ∀ (A : RA) σ', A.u = u → Ds A → Rn A P ⟨0, 0, 0, [], [], [], []⟩ σ' → (∀ c, c ≠ u → σ c ≠ Option.none → σ' c = σ c) → (∀ c ∈ A.mut, σ c = Option.none) → Q .none σ') : wpF prg (d + 4) 22 [.obj u, .tup [.int P.w, .int P.r, .int P.m, .int P.b], .int P.g, v] σ Q E := by
  refine aT (fi := pI) rfl rfl ?_
  simp only [pI, List.map_cons, List.map_nil, Nat.reduceSub, List.replicate_zero, List.cons_append, List.nil_append, w22, ag, bX, aR, an, br, ak, ap, am, aE]
  refine mG hb ?_
  simp only [cA, aj, ag, bX, aR, an, cr, ak, ap, am, aE]
  refine qd rfl (fM hg) ?_
  simp only [cA, aj, ag, bX, aR, an, dO, ak, ap, am, aE]
  refine wD hs hl ht ?_
  simp only [cA, aj, ag, bM, br, de, aP, cD h0 (f := 11) (by decide : (0 : Nat) < 100), cr]
  rw [show ∀ v : AV, co 11 v [] = [(11, v)] from fun _ => rfl, cD (aq _ _ _) (h' := ?hh)]
  case hh => exact Nat.le_of_ble_eq_true rfl
  simp only [aj, ag, bM, cH, an, dO, ak, ap, am, cz]
  rw [show ∀ v x : AV, co 3 v [(11, x)] = [(11, x), (3, v)] from fun _ _ => rfl, uY]
  simp only [vy (yR h0 hs), yM, de, aP]
  rw [cD (aq _ _ _) (h' := ?hh)]
  case hh => exact Nat.le_of_ble_eq_true rfl
  simp only [aj, ag, bM, mS, an, aX, br, aC, e_c, aD, bD, Int.le_refl, Int.toNat_zero, List.getElem?_cons_zero, aM, ak, cr, cH, dO, ap, am, cz, true_and]
  rw [show ∀ v x y : AV, co 12 v [(11, x), (3, y)] = [(11, x), (3, y), (12, v)] from fun _ _ _ => rfl, uY]
  simp only [uJ (yR h0 hs), ak, ap, am, jL]
  have a1 := aq σ u (.inst 11 [(11, .tup [.int P.w, .int P.r, .int P.m, .int P.b]), (3, .int P.g), (12, .ilist P.ts)])
  have k1 : ∀ c, c ≠ u → upd σ u (.inst 11 [(11, .tup [.int P.w, .int P.r, .int P.m, .int P.b]), (3, .int P.g), (12, .ilist P.ts)]) c = σ c := fun c hc => ai _ _ hc
  generalize upd σ u (.inst 11 [(11, .tup [.int P.w, .int P.r, .int P.m, .int P.b]), (3, .int P.g), (12, .ilist P.ts)]) = σ1 at a1 k1 ⊢
  -- the sender
  intro s hs1
  refine xW (aq _ _ _) fun σ2 s2 q2 => ?_
  have su : u ≠ s := cT a1 hs1
  have u2 := (q2 _ su).trans (keep a1 hs1)
  simp only [lw, de, aP]
  rw [cD u2 (h' := ?hh)]
  case hh => exact Nat.le_of_ble_eq_true rfl
  rw [show ∀ v x y z : AV, co 13 v [(11, x), (3, y), (12, z)] = [(11, x), (3, y), (12, z), (13, v)] from fun _ _ _ _ => rfl]
  have u3 := aq σ2 u (.inst 11 [(11, .tup [.int P.w, .int P.r, .int P.m, .int P.b]), (3, .int P.g), (12, .ilist P.ts), (13, .obj s)])
  have s3 : upd σ2 u (.inst 11 [(11, .tup [.int P.w, .int P.r, .int P.m, .int P.b]), (3, .int P.g), (12, .ilist P.ts), (13, .obj s)]) s = some (S P.w P.g P.ts.length 0 0) := (ai _ _ (Ne.symm su)).trans s2
  have k3 : ∀ c, c ≠ u → c ≠ s → upd σ2 u (.inst 11 [(11, .tup [.int P.w, .int P.r, .int P.m, .int P.b]), (3, .int P.g), (12, .ilist P.ts), (13, .obj s)]) c = σ c := fun c c1 c2 => by rw [ai _ _ c1, q2 c c2, ai _ _ c2, k1 c c1]
  simp only [aj, ag, bM, mS, an, aX, br, aC, e_c, aD, bD, Int.reduceLE, Int.toNat_one, List.getElem?_cons_succ, List.getElem?_cons_zero, aM, ak, cr, ap, am, jL, true_and]
  generalize upd σ2 u (.inst 11 [(11, .tup [.int P.w, .int P.r, .int P.m, .int P.b]), (3, .int P.g), (12, .ilist P.ts), (13, .obj s)]) = σ3 at u3 s3 k3 ⊢
  -- the taker
  intro k hk
  have uk : u ≠ k := cT u3 hk
  have sk : s ≠ k := cT s3 hk
  refine yI (aq _ _ _) fun o e σ4 ⟨ok, ek, oe, ho, he⟩ t4 o4 e4 q4 => ?_
  have u3' := keep (x := .inst 10 []) u3 hk
  have s3' := keep (x := .inst 10 []) s3 hk
  have uo : u ≠ o := cT u3' ho
  have ue : u ≠ e := cT u3' he
  have so : s ≠ o := cT s3' ho
  have se : s ≠ e := cT s3' he
  have u4 := (q4 _ uk uo ue).trans u3'
  have s4 := (q4 _ sk so se).trans s3'
  simp only [lw, de, aP]
  rw [cD u4 (h' := ?hh)]
  case hh => exact Nat.le_of_ble_eq_true rfl
  rw [show ∀ v x y z t : AV, co 14 v [(11, x), (3, y), (12, z), (13, t)] = [(11, x), (3, y), (12, z), (13, t), (14, v)] from fun _ _ _ _ _ => rfl]
  have u5 := aq σ4 u (.inst 11 [(11, .tup [.int P.w, .int P.r, .int P.m, .int P.b]), (3, .int P.g), (12, .ilist P.ts), (13, .obj s), (14, .obj k)])
  have n5 : ∀ c, c ≠ u → upd σ4 u (.inst 11 [(11, .tup [.int P.w, .int P.r, .int P.m, .int P.b]), (3, .int P.g), (12, .ilist P.ts), (13, .obj s), (14, .obj k)]) c = σ4 c := fun c hc => ai _ _ hc
  simp only [aj, ag, bM, mS, an, aX, br, aC, e_c, aD, bD, Int.reduceLE, Int.reduceToNat, List.getElem?_cons_succ, List.getElem?_cons_zero, aM, ak, ap, am, jL, true_and]
  generalize upd σ4 u (.inst 11 [(11, .tup [.int P.w, .int P.r, .int P.m, .int P.b]), (3, .int P.g), (12, .ilist P.ts), (13, .obj s), (14, .obj k)]) = σ5 at u5 n5 ⊢
  have s5 := (n5 _ (Ne.symm su)).trans s4
  have t5 := (n5 _ (Ne.symm uk)).trans t4
  have o5 := (n5 _ (Ne.symm uo)).trans o4
  have e5 := (n5 _ (Ne.symm ue)).trans e4
  have k5 : ∀ c, c ≠ u → c ≠ s → c ≠ k → c ≠ o → c ≠ e → σ5 c = σ c := fun c c1 c2 c3 c4 c5 => by rw [n5 c c1, q4 c c3 c4 c5, ai _ _ c3, k3 c c1 c2]
  have ko : σ3 o = Option.none := by rw [ai _ _ ok] at ho; exact ho
  have ke : σ3 e = Option.none := by rw [ai _ _ ek] at he; exact he
  -- the post forth
  intro f hf
  have fu := cT u5 hf
  have fs := cT s5 hf
  have fk := cT t5 hf
  have fo := cT o5 hf
  have fe := cT e5 hf
  refine sp (aq _ _ _) fun ft σ6 hft ff f6 ft6 q6 => ?_
  have gu := cT (keep (x := .inst 8 []) u5 hf) hft
  have gs := cT (keep (x := .inst 8 []) s5 hf) hft
  have gk := cT (keep (x := .inst 8 []) t5 hf) hft
  have go := cT (keep (x := .inst 8 []) o5 hf) hft
  have ge := cT (keep (x := .inst 8 []) e5 hf) hft
  have u6 := (q6 _ fu gu).trans (keep u5 hf)
  have hft' : σ5 ft = Option.none := by rw [ai _ _ ff] at hft; exact hft
  simp only [lw, de, aP]
  rw [cD u6 (h' := ?hh)]
  case hh => exact Nat.le_of_ble_eq_true rfl
  rw [show ∀ v x y z t w : AV, co 15 v [(11, x), (3, y), (12, z), (13, t), (14, w)] = [(11, x), (3, y), (12, z), (13, t), (14, w), (15, v)] from fun _ _ _ _ _ _ => rfl]
  have u7 := aq σ6 u (.inst 11 [(11, .tup [.int P.w, .int P.r, .int P.m, .int P.b]), (3, .int P.g), (12, .ilist P.ts), (13, .obj s), (14, .obj k), (15, .obj f)])
  have n7 : ∀ c, c ≠ u → upd σ6 u (.inst 11 [(11, .tup [.int P.w, .int P.r, .int P.m, .int P.b]), (3, .int P.g), (12, .ilist P.ts), (13, .obj s), (14, .obj k), (15, .obj f)]) c = σ6 c := fun c hc => ai _ _ hc
  simp only [aj, ag, bM, mS, an, aX, br, aC, e_c, aD, bD, Int.reduceLE, Int.reduceToNat, List.getElem?_cons_succ, List.getElem?_cons_zero, aM, ak, ap, am, jL, true_and]
  generalize upd σ6 u (.inst 11 [(11, .tup [.int P.w, .int P.r, .int P.m, .int P.b]), (3, .int P.g), (12, .ilist P.ts), (13, .obj s), (14, .obj k), (15, .obj f)]) = σ7 at u7 n7 ⊢
  have m7 : ∀ c, c ≠ u → c ≠ f → c ≠ ft → σ7 c = σ5 c := fun c c1 c2 c3 => by rw [n7 c c1, q6 c c2 c3, ai _ _ c2]
  have s7 := (m7 _ (Ne.symm su) fs gs).trans s5
  have t7 := (m7 _ (Ne.symm uk) fk gk).trans t5
  have o7 := (m7 _ (Ne.symm uo) fo go).trans o5
  have e7 := (m7 _ (Ne.symm ue) fe ge).trans e5
  have f7 := (n7 _ (Ne.symm fu)).trans f6
  have ft7 := (n7 _ (Ne.symm gu)).trans ft6
  -- the post back
  intro bk hbk
  have bu := cT u7 hbk
  refine sp (aq _ _ _) fun bt σ8 hbt bb b8 bt8 q8 => ?_
  have cu := cT (keep (x := .inst 8 []) u7 hbk) hbt
  have u8 := (q8 _ bu cu).trans (keep u7 hbk)
  have hbt' : σ7 bt = Option.none := by rw [ai _ _ bb] at hbt; exact hbt
  simp only [lw, de, aP]
  rw [cD u8 (h' := ?hh)]
  case hh => exact Nat.le_of_ble_eq_true rfl
  rw [show ∀ v x y z t w a : AV, co 16 v [(11, x), (3, y), (12, z), (13, t), (14, w), (15, a)] = [(11, x), (3, y), (12, z), (13, t), (14, w), (15, a), (16, v)] from fun _ _ _ _ _ _ _ => rfl]
  simp only [aj, bc, jt]
  have m8 : ∀ {c : Nat} {x : AObj}, σ7 c = some x → c ≠ u → upd σ8 u (Ru ⟨u, s, k, o, e, f, ft, bk, bt⟩ P) c = some x := fun {c x} hc c1 => by
    rw [ai _ _ c1, q8 c (cT hc hbk) (cT (keep (x := .inst 8 []) hc hbk) hbt)]; exact keep hc hbk
  have z7 : ∀ c, σ7 c = Option.none → c ≠ f → c ≠ ft → c ≠ u → σ5 c = Option.none := fun c h c1 c2 c3 => (m7 c c3 c1 c2).symm.trans h
  refine h ⟨u, s, k, o, e, f, ft, bk, bt⟩ _ rfl ⟨go, cT (keep (x := .inst 8 []) o7 hbk) hbt, cT (keep (x := .inst 8 []) ft7 hbk) hbt⟩
    ⟨aq _ _ _, m8 s7 (Ne.symm su), m8 t7 (Ne.symm uk), m8 o7 (Ne.symm uo), m8 e7 (Ne.symm ue), m8 f7 (Ne.symm fu), m8 ft7 (Ne.symm gu), ?_, ?_⟩ ?_ ?_
  · rw [ai _ _ (Ne.symm bu)]; exact b8
  · rw [ai _ _ (Ne.symm cu)]; exact bt8
  · intro c cu' hc
    have c1 : c ≠ s := fun q => hc (by rw [q, ← k1 _ (Ne.symm su)]; exact hs1)
    have e3 : σ3 c = σ c := k3 c cu' c1
    have c2 : c ≠ k := fun q => hc (by rw [← e3, q]; exact hk)
    have c3 : c ≠ o := fun q => hc (by rw [← e3, q]; exact ko)
    have c4 : c ≠ e := fun q => hc (by rw [← e3, q]; exact ke)
    have e5 : σ5 c = σ c := k5 c cu' c1 c2 c3 c4
    have c5 : c ≠ f := fun q => hc (by rw [← e5, q]; exact hf)
    have c6 : c ≠ ft := fun q => hc (by rw [← e5, q]; exact hft')
    have e7 : σ7 c = σ c := (m7 c cu' c5 c6).trans e5
    have c7 : c ≠ bk := fun q => hc (by rw [← e7, q]; exact hbk)
    have c8 : c ≠ bt := fun q => hc (by rw [← e7, q]; exact hbt')
    rw [ai _ _ cu', q8 c c7 c8, ai _ _ c7, e7]
  · have y1 : σ s = Option.none := (k1 _ (Ne.symm su)).symm.trans hs1
    have y2 : ∀ c, σ3 c = Option.none → c ≠ u → c ≠ s → σ c = Option.none := fun c h c1 c2 => (k3 c c1 c2).symm.trans h
    have y3 : ∀ c, σ5 c = Option.none → c ≠ u → σ c = Option.none := fun c h c1 => by
      by_cases q1 : c = s
      · rw [q1]; exact y1
      by_cases q2 : c = k
      · rw [q2]; exact y2 _ hk (Ne.symm uk) (Ne.symm sk)
      by_cases q3 : c = o
      · rw [q3]; exact y2 _ ko (Ne.symm uo) (Ne.symm so)
      by_cases q4 : c = e
      · rw [q4]; exact y2 _ ke (Ne.symm ue) (Ne.symm se)
      exact (k5 c c1 q1 q2 q3 q4).symm.trans h
    intro c hc
    unfold RA.mut at hc
    simp only [List.mem_cons, List.not_mem_nil, or_false] at hc
    rcases hc with q | q | q | q | q | q
    · rw [q]; exact y1
    · rw [q]; exact y2 _ hk (Ne.symm uk) (Ne.symm sk)
    · rw [q]; exact y2 _ ko (Ne.symm uo) (Ne.symm so)
    · rw [q]; exact y2 _ ke (Ne.symm ue) (Ne.symm se)
    · rw [q]; exact y3 _ hft' (Ne.symm gu)
    · rw [q]
      show σ bt = Option.none
      by_cases q1 : bt = f
      · rw [q1]; exact y3 _ hf (Ne.symm fu)
      by_cases q2 : bt = ft
      · rw [q2]; exact y3 _ hft' (Ne.symm gu)
      exact y3 _ (z7 _ hbt' q1 q2 (Ne.symm cu)) (Ne.symm cu)
end Ap.L13
end
section
namespace Ap.L13
open PySem
variable {d : Nat} {σ σ' : St} {Q : PQ} {E : PE}
variable {A : RA} {P : Pm} {M : Mo}
theorem Rn.snd (R : Rn A P M σ) {b t : Int} (h1 : σ' A.s = some (S P.w P.g P.ts.length b t)) (k : ∀ c, c ≠ A.s → σ' c = σ c) : Rn A P { M with base := b, top := t } σ' where
  u := (k _ (aU R.u R.s (by intro h; cases h))).trans R.u
  s := h1
  k := (k _ (aU R.k R.s (by intro h; cases h))).trans R.k
  o := (k _ (aU R.o R.s (by intro h; cases h))).trans R.o
  e := (k _ (aU R.e R.s (by intro h; cases h))).trans R.e
  f := (k _ (aU R.f R.s (by intro h; cases h))).trans R.f
  ft := (k _ (aU R.ft R.s (by intro h; cases h))).trans R.ft
  bk := (k _ (aU R.bk R.s (by intro h; cases h))).trans R.bk
  bt := (k _ (aU R.bt R.s (by intro h; cases h))).trans R.bt
theorem Rn.pF (X : Ds A) (R : Rn A P M σ) {xs : List AV} : Rn A P { M with F := xs } (upd σ A.ft (.list xs)) where
  u := (ai _ _ (aU R.u R.ft (by intro h; cases h))).trans R.u
  s := (ai _ _ (aU R.s R.ft (by intro h; cases h))).trans R.s
  k := (ai _ _ (aU R.k R.ft (by intro h; cases h))).trans R.k
  o := (ai _ _ X.d1).trans R.o
  e := (ai _ _ (aU R.e R.ft (by intro h; cases h))).trans R.e
  f := (ai _ _ (aU R.f R.ft (by intro h; cases h))).trans R.f
  ft := aq _ _ _
  bk := (ai _ _ (aU R.bk R.ft (by intro h; cases h))).trans R.bk
  bt := (ai _ _ (Ne.symm X.d3)).trans R.bt
theorem Rn.pB (X : Ds A) (R : Rn A P M σ) {xs : List AV} : Rn A P { M with G := xs } (upd σ A.bt (.list xs)) where
  u := (ai _ _ (aU R.u R.bt (by intro h; cases h))).trans R.u
  s := (ai _ _ (aU R.s R.bt (by intro h; cases h))).trans R.s
  k := (ai _ _ (aU R.k R.bt (by intro h; cases h))).trans R.k
  o := (ai _ _ X.d2).trans R.o
  e := (ai _ _ (aU R.e R.bt (by intro h; cases h))).trans R.e
  f := (ai _ _ (aU R.f R.bt (by intro h; cases h))).trans R.f
  ft := (ai _ _ X.d3).trans R.ft
  bk := (ai _ _ (aU R.bk R.bt (by intro h; cases h))).trans R.bk
  bt := aq _ _ _
theorem Rn.tk (X : Ds A) (R : Rn A P M σ) {p : Int} {G : List AV} {D : List (Int × AV)} (h1 : σ' A.k = some (Tk P.r P.g p A.o A.e)) (h2 : σ' A.o = some (.list G)) (h3 : σ' A.e = some (.dictI D)) (k : ∀ c, c ≠ A.k → c ≠ A.o → c ≠ A.e → σ' c = σ c) : Rn A P { M with place := p, own := G, early := D } σ' where
  u := (k _ (aU R.u R.k (by intro h; cases h)) (aU R.u R.o (by intro h; cases h)) (aU R.u R.e (by intro h; cases h))).trans R.u
  s := (k _ (aU R.s R.k (by intro h; cases h)) (aU R.s R.o (by intro h; cases h)) (aU R.s R.e (by intro h; cases h))).trans R.s
  k := h1
  o := h2
  e := h3
  f := (k _ (aU R.f R.k (by intro h; cases h)) (aU R.f R.o (by intro h; cases h)) (aU R.f R.e (by intro h; cases h))).trans R.f
  ft := (k _ (aU R.ft R.k (by intro h; cases h)) (Ne.symm X.d1) (aU R.ft R.e (by intro h; cases h))).trans R.ft
  bk := (k _ (aU R.bk R.k (by intro h; cases h)) (aU R.bk R.o (by intro h; cases h)) (aU R.bk R.e (by intro h; cases h))).trans R.bk
  bt := (k _ (aU R.bt R.k (by intro h; cases h)) (Ne.symm X.d2) (aU R.bt R.e (by intro h; cases h))).trans R.bt
noncomputable def Mo.send (P : Pm) (M : Mo) (k : Int) (x : AV) : Mo := { M with top := if k = M.top then k + 1 else M.top, F := M.F ++ [.tup [.int (k.fmod P.g), x]] }
noncomputable def Mo.came (P : Pm) (M : Mo) (n : Int) (x : AV) : Int × List (Int × AV) × List AV := drain (dv P.r P.g n M.place x M.early).length M.place (dv P.r P.g n M.place x M.early) M.own
noncomputable def Mo.hand (P : Pm) (M : Mo) (n : Int) (x : AV) : Mo := { M with place := (M.came P n x).1, early := (M.came P n x).2.1, own := (M.came P n x).2.2, G := M.G ++ [.int ((M.came P n x).1.fmod P.g)] }
noncomputable def Mo.tell (P : Pm) (M : Mo) (n : Int) : Mo := { M with base := hrd P.g M.base M.top n }
theorem Br : A.s ∈ A.mut := List.mem_cons_self
theorem EV : A.k ∈ A.mut := List.mem_cons_of_mem _ List.mem_cons_self
theorem EH : A.o ∈ A.mut := List.mem_cons_of_mem _ (List.mem_cons_of_mem _ List.mem_cons_self)
theorem DR : A.e ∈ A.mut := List.mem_cons_of_mem _ (List.mem_cons_of_mem _ (List.mem_cons_of_mem _ List.mem_cons_self))
theorem CS : A.ft ∈ A.mut := List.mem_cons_of_mem _ (List.mem_cons_of_mem _ (List.mem_cons_of_mem _ (List.mem_cons_of_mem _ List.mem_cons_self)))
theorem CJ : A.bt ∈ A.mut := List.mem_cons_of_mem _ (List.mem_cons_of_mem _ (List.mem_cons_of_mem _ (List.mem_cons_of_mem _ (List.mem_cons_of_mem _ List.mem_cons_self))))
theorem nm {c x : Nat} (hc : c ∉ A.mut) (hx : x ∈ A.mut) : c ≠ x := fun q => hc (q ▸ hx)
theorem AI (R : Rn A P M σ) {k : Int} (hk : 0 ≤ k ∧ k ≤ 999999) (hn : amongB (.int k) M.base (dw P.w P.ts.length M.base M.top) = false) (h : E 5 σ) : wpF prg (d + 4) 23 [.obj A.u, .tup [.str (Str.ofString "send"), .int k]] σ Q E := by
  refine aT (fi := lI) rfl rfl ?_
  simp only [lI, List.map_cons, List.map_nil, Nat.reduceSub, List.replicate_succ, List.replicate_zero, List.cons_append, List.nil_append, w23, ag, bX, aR, an, br, ak, ap, am, aE]
  refine fh (pX rfl rfl (jP wS hk)) ?_
  simp only [cA, aj, ag, bh, bd, aX, br, aC, e_c, aD, bD, Int.le_refl, Int.toNat_zero, List.getElem?_cons_zero, aM, aL, az, aI, eI, beq_self_eq_true, bV, cJ, au, aG, bv, aH, eA, bQ, aP, bN, bf R.u (f := 13) (v := .obj A.s) rfl, dD R.s (m := 21) rfl, an, Int.reduceLE, Int.toNat_one, List.getElem?_cons_succ, ak, ap, am, cF, true_and]
  exact zV R.s rfl hn h
theorem xL (X : Ds A) (R : Rn A P M σ) {k : Int} {x : AV} (hk : 0 ≤ k ∧ k ≤ 999999) (hg : P.g ≠ 0) (hF : M.F.length ≤ 1000) (hn : amongB (.int k) M.base (dw P.w P.ts.length M.base M.top) = true) (hx : P.ts[k.toNat]? = some x)
    (h : ∀ σ', Rn A P (M.send P k x) σ' → (∀ c, c ∉ A.mut → σ' c = σ c) → Q (.int M.F.length) σ') : wpF prg (d + 4) 23 [.obj A.u, .tup [.str (Str.ofString "send"), .int k]] σ Q E := by
  refine aT (fi := lI) rfl rfl ?_
  simp only [lI, List.map_cons, List.map_nil, Nat.reduceSub, List.replicate_succ, List.replicate_zero, List.cons_append, List.nil_append, w23, ag, bX, aR, an, br, ak, ap, am, aE]
  refine fh (pX rfl rfl (jP wS hk)) ?_
  simp only [cA, aj, ag, bh, bd, aX, br, aC, e_c, aD, bD, Int.le_refl, Int.toNat_zero, List.getElem?_cons_zero, aM, aL, az, aI, eI, beq_self_eq_true, bV, cJ, au, aG, bv, aH, eA, bQ, aP, bN, bf R.u (f := 13) (v := .obj A.s) rfl, dD R.s (m := 21) rfl, an, Int.reduceLE, Int.toNat_one, List.getElem?_cons_succ, ak, ap, am, cF, true_and]
  refine yN R.s hg hn fun σ1 s1 k1 => ?_
  have R1 := R.snd s1 k1
  simp only [bw, lW, aj, ag, bA, eA, bQ, aP, bN, bf R1.u (f := 15) (v := .obj A.f) rfl, dD R1.f (m := 22) rfl, an, dh, cr, ak, aX, bf R1.u (f := 12) (v := .ilist P.ts) rfl, aC, br, e_c, aD, bD, Int.reduceLE, Int.toNat_one, List.getElem?_cons_succ, List.getElem?_cons_zero, aM, i_l, hk.1, hx, ap, am, cn, cF, true_and]
  refine pQ R1.f R1.ft hF ?_
  simp only [aN, aF, aO]
  refine h _ (R1.pF X) fun c hc => ?_
  rw [ai _ _ (nm hc CS), k1 c (nm hc Br)]
theorem zn (R : Rn A P M σ) {n : Int} (hk : 0 ≤ n ∧ n ≤ 999999) (hn : amongB (.int n) (eH P.m M.F) (M.F.length - 1) = false) (h : E 6 σ) : wpF prg (d + 4) 23 [.obj A.u, .tup [.str (Str.ofString "hand"), .int n]] σ Q E := by
  refine aT (fi := lI) rfl rfl ?_
  simp only [lI, List.map_cons, List.map_nil, Nat.reduceSub, List.replicate_succ, List.replicate_zero, List.cons_append, List.nil_append, w23, ag, bX, aR, an, br, ak, ap, am, aE]
  refine fh (pX rfl rfl (jP wH hk)) ?_
  simp only [cA, aj, ag, bh, bd, aX, br, aC, e_c, aD, bD, Int.le_refl, Int.toNat_zero, List.getElem?_cons_zero, aM, aL, az, aI, eI, qHS, bI, au, aG, bg, bc, beq_self_eq_true, bV, cJ, bv, qr, eA, bQ, aP, bN, bf R.u (f := 15) (v := .obj A.f) rfl, dD R.f (m := 23) rfl, an, Int.reduceLE, Int.toNat_one, List.getElem?_cons_succ, ak, ap, am, cF, true_and]
  exact sN rfl R.f R.ft hn h
theorem wP (X : Ds A) (R : Rn A P M σ) {n b : Int} {x : AV} (hk : 0 ≤ n ∧ n ≤ 999999) (hg : P.g ≠ 0) (hm : 0 ≤ P.m) (hG : M.G.length ≤ 1000) (hO : M.own.length + M.early.length ≤ 900) (hn : eH P.m M.F ≤ n ∧ n < M.F.length) (hx : M.F[n.toNat]? = some (.tup [.int b, x]))
    (h : ∀ σ', Rn A P (M.hand P b x) σ' → (∀ c, c ∉ A.mut → σ' c = σ c) → Q (.int M.G.length) σ') : wpF prg (d + 4) 23 [.obj A.u, .tup [.str (Str.ofString "hand"), .int n]] σ Q E := by
  refine aT (fi := lI) rfl rfl ?_
  simp only [lI, List.map_cons, List.map_nil, Nat.reduceSub, List.replicate_succ, List.replicate_zero, List.cons_append, List.nil_append, w23, ag, bX, aR, an, br, ak, ap, am, aE]
  refine fh (pX rfl rfl (jP wH hk)) ?_
  simp only [cA, aj, ag, bh, bd, aX, br, aC, e_c, aD, bD, Int.le_refl, Int.toNat_zero, List.getElem?_cons_zero, aM, aL, az, aI, eI, qHS, bI, au, aG, bg, bc, beq_self_eq_true, bV, cJ, bv, qr, eA, bQ, aP, bN, bf R.u (f := 15) (v := .obj A.f) rfl, dD R.f (m := 23) rfl, an, Int.reduceLE, Int.toNat_one, List.getElem?_cons_succ, ak, ap, am, cF, true_and]
  refine qm hm R.f R.ft hn hx ?_
  simp only [fK (xs := [_, _]) (is := [_, _]) rfl, dj, lW, mZ, du, aj, ag, bA, eA, bQ, aP, bN, bf R.u (f := 16) (v := .obj A.bk) rfl, dD R.bk (m := 22) rfl, an, bf R.u (f := 14) (v := .obj A.k) rfl, dD R.k (m := 26) rfl, cr, ak, dO, ap, am, cF]
  refine zK (aU R.o R.k (by intro h; cases h)) (aU R.e R.k (by intro h; cases h)) (aU R.o R.e (by intro h; cases h)) hg hO R.k R.o R.e fun σ1 p' D' G' hz z1 z2 z3 z4 => ?_
  have R1 := R.tk X z1 z2 z3 z4
  simp only [ak, ap, am, cF]
  refine pQ R1.bk R1.bt hG ?_
  simp only [aN, aF, aO]
  have e : M.hand P b x = { M with place := p', own := G', early := D', G := M.G ++ [.int (p'.fmod P.g)] } := by
    have e0 : M.came P b x = (p', D', G') := hz
    unfold Mo.hand
    rw [e0]
  refine h _ ?_ fun c hc => ?_
  · rw [e]; exact R1.pB X
  · rw [ai _ _ (nm hc CJ), z4 c (nm hc EV) (nm hc EH) (nm hc DR)]
theorem zX (R : Rn A P M σ) {n : Int} (hk : 0 ≤ n ∧ n ≤ 999999) (hn : amongB (.int n) (eH P.b M.G) (M.G.length - 1) = false) (h : E 6 σ) : wpF prg (d + 4) 23 [.obj A.u, .tup [.str (Str.ofString "tell"), .int n]] σ Q E := by
  refine aT (fi := lI) rfl rfl ?_
  simp only [lI, List.map_cons, List.map_nil, Nat.reduceSub, List.replicate_succ, List.replicate_zero, List.cons_append, List.nil_append, w23, ag, bX, aR, an, br, ak, ap, am, aE]
  refine fh (pX rfl rfl (jP wT hk)) ?_
  simp only [cA, aj, ag, bh, bd, aX, br, aC, e_c, aD, bD, Int.le_refl, Int.toNat_zero, List.getElem?_cons_zero, aM, aL, az, aI, eI, qTS, bI, au, aG, bg, bc, qTH, bX, eA, bQ, aP, bN, bf R.u (f := 13) (v := .obj A.s) rfl, dD R.s (m := 17) rfl, an, bf R.u (f := 16) (v := .obj A.bk) rfl, dD R.bk (m := 23) rfl, Int.reduceLE, Int.toNat_one, List.getElem?_cons_succ, ak, ap, am, cF, true_and]
  exact sN rfl R.bk R.bt hn h
theorem yW (R : Rn A P M σ) {n a : Int} (hk : 0 ≤ n ∧ n ≤ 999999) (hg : P.g ≠ 0) (hm : 0 ≤ P.b) (hn : eH P.b M.G ≤ n ∧ n < M.G.length) (hx : M.G[n.toNat]? = some (.int a))
    (h : ∀ σ', Rn A P (M.tell P a) σ' → (∀ c, c ∉ A.mut → σ' c = σ c) → Q (.int (M.tell P a).base) σ') : wpF prg (d + 4) 23 [.obj A.u, .tup [.str (Str.ofString "tell"), .int n]] σ Q E := by
  refine aT (fi := lI) rfl rfl ?_
  simp only [lI, List.map_cons, List.map_nil, Nat.reduceSub, List.replicate_succ, List.replicate_zero, List.cons_append, List.nil_append, w23, ag, bX, aR, an, br, ak, ap, am, aE]
  refine fh (pX rfl rfl (jP wT hk)) ?_
  simp only [cA, aj, ag, bh, bd, aX, br, aC, e_c, aD, bD, Int.le_refl, Int.toNat_zero, List.getElem?_cons_zero, aM, aL, az, aI, eI, qTS, bI, au, aG, bg, bc, qTH, bX, eA, bQ, aP, bN, bf R.u (f := 13) (v := .obj A.s) rfl, dD R.s (m := 17) rfl, an, bf R.u (f := 16) (v := .obj A.bk) rfl, dD R.bk (m := 23) rfl, Int.reduceLE, Int.toNat_one, List.getElem?_cons_succ, ak, ap, am, cF, true_and]
  refine qm hm R.bk R.bt hn hx ?_
  simp only [ak, ap, am, cF]
  refine yD R.s hg fun σ1 s1 k1 => ?_
  have R1 := R.snd s1 k1
  simp only [cA, aj, ag, bA, aX, eA, bQ, aP, bN, bf R1.u (f := 13) (v := .obj A.s) rfl, dD R1.s (m := 24) rfl, ap, cF]
  refine zt R1.s ?_
  simp only [aC, e_c, aD, bD, Int.le_refl, Int.toNat_zero, List.getElem?_cons_zero, aM, aN, aF, aO, true_and]
  exact h _ R1 fun c hc => k1 c (nm hc Br)
end Ap.L13
end
section
namespace Ap.L13
open PySem
variable {d : Nat} {σ σ' : St} {Q : PQ} {E : PE}
theorem Cu : rA [.int 1, .int 2] = some [1, 2] := rfl
noncomputable def bB4 : WS := (ad (bY (bG (vO2 bK (vO2 bC (ac 2) (vC (.int 16))) (vC (.int 6))) (aS cGt (vC (.int 3)) bF)) (ad (aw 5 (vO2 bK (vO2 bC (ac 2) (vC (.int 96))) (vO2 di (cU false (aa (vC (.int 21)) (aa (vC (.int 9)) ar))) (vO2 bK (vO2 bC (ac 2) (vC (.int 16))) (vC (.int 2)))))) ay) ay) (ad (bP (et (aa (ac 3) (aa (vO2 bZ (vC (.int 1)) (vO2 bK (vO2 bC (ac 1) (vC (.int 600))) (ac 3))) (aa (ac 4) (aa (ac 5) ar)))))) ay))
noncomputable def bB3 : WS := (ad (bY (bG (vO2 bK (vO2 bC (ac 2) (vC (.int 16))) (vC (.int 6))) (aS cEq (vC (.int 2)) bF)) (ad (aw 5 (vO2 bK (vO2 bC (ac 2) (vC (.int 2016))) (vC (.int 21)))) ay) ay) bB4)
noncomputable def bB2 : WS := (ad (bY (bG (vO2 bK (vO2 bC (ac 2) (vC (.int 16))) (vC (.int 6))) (aS zQ (et (aa (vC (.int 1)) (aa (vC (.int 2)) ar))) bF)) (ad (aw 4 (vO2 bK (vO2 bC (ac 2) (vC (.int 96))) (vC (.int 21)))) ay) ay) bB3)
noncomputable def bB1 : WS := (ad (bY (bG (vO2 bK (vO2 bC (ac 1) (vC (.int 5))) (vC (.int 6))) (aS cEq (vC (.int 1)) bF)) (ad (aw 3 (vO2 bZ (vC (.int 1)) (vO2 bK (vO2 bC (ac 1) (vC (.int 30))) (vC (.int 20))))) ay) ay) bB2)
theorem ww {ns : List Int} (h : ∀ w r m b, Bnd w r m b → Q (.tup [.int w, .int r, .int m, .int b]) σ) : wpF prg (d + 2) 36 [.ilist (ns.map .int)] σ Q E := by
  refine aT (fi := fn36) rfl rfl ?_
  rw [show fn36.body (wpF prg (d + 1)) = (ad (aw 1 (aZ (wpF prg (d + 1)) 35 (aa (aZ (wpF prg (d + 1)) 34 (aa (ac 0) (aa (vC (.int 0)) ar))) (aa (vC (.int 0)) ar)))) (ad (aw 2 (aZ (wpF prg (d + 1)) 35 (aa (aZ (wpF prg (d + 1)) 34 (aa (ac 0) (aa (vC (.int 1)) ar))) (aa (vC (.int 1)) ar)))) (ad (aw 3 (vO2 bZ (vC (.int 1)) (vO2 bK (ac 1) (vC (.int 5))))) (ad (aw 4 (vO2 bK (ac 2) (vC (.int 4)))) (ad (aw 5 (vO2 bK (vO2 bC (ac 2) (vC (.int 4))) (vC (.int 4)))) bB1))))) from rfl]
  simp only [List.map_cons, List.map_nil, fn36, Nat.reduceSub, List.replicate_succ, List.replicate_zero, List.cons_append, List.nil_append, ag, aH, aR, an, aP, ak, e_c, ap, am, aE]
  refine pW 0 rfl ?_
  simp only [ak, an, e_c, ap, am, aE]
  refine lC (by decide) ?_
  generalize (_ : Int).fmod 2147483647 = a
  simp only [bw, pP, aj, ag, aH, aR, an, aP, ak, e_c, ap, am, aE]
  refine pW 1 rfl ?_
  simp only [ak, an, e_c, ap, am, aE]
  refine lC (by decide) ?_
  generalize (_ : Int).fmod 2147483647 = t
  have e1 := bL (a := a) (b := 5) (by decide)
  have e2 := bW (a := a) (b := 5) (by decide)
  have e3 := bL (a := t) (b := 4) (by decide)
  have e4 := bW (a := t) (b := 4) (by decide)
  have e5 := bL (a := t.fdiv 4) (b := 4) (by decide)
  have e6 := bW (a := t.fdiv 4) (b := 4) (by decide)
  have f1 := bL (a := a.fdiv 30) (b := 20) (by decide)
  have f2 := bW (a := a.fdiv 30) (b := 20) (by decide)
  have f3 := bL (a := t.fdiv 96) (b := 21) (by decide)
  have f4 := bW (a := t.fdiv 96) (b := 21) (by decide)
  have f5 := bL (a := t.fdiv 2016) (b := 21) (by decide)
  have f6 := bW (a := t.fdiv 2016) (b := 21) (by decide)
  have f7 := bL (a := t.fdiv 96) (b := 9) (by decide)
  have f8 := bW (a := t.fdiv 96) (b := 9) (by decide)
  have g1 := bL (a := t.fdiv 16) (b := 2) (by decide)
  have g2 := bW (a := t.fdiv 16) (b := 2) (by decide)
  have l4 : ∀ w m b : Int, (1 ≤ w ∧ w ≤ 20) → (0 ≤ m ∧ m ≤ 20) → (0 ≤ b ∧ b ≤ 20) → bB4 [some (.ilist (ns.map .int)), some (.int a), some (.int t), some (.int w), some (.int m), some (.int b)] σ (kFn Q) (eFn E) := by
    intro w m b hw hm hb
    have fin : ∀ b : Int, (0 ≤ b ∧ b ≤ 20) → w ≠ 0 ∧ Q (.tup [.int w, .int (1 + (a.fdiv 600).fmod w), .int m, .int b]) σ := fun b hb => by
      have y0 := bL (a := a.fdiv 600) (b := w) (by omega)
      have y1 := bW (a := a.fdiv 600) (b := w) (by omega)
      exact ⟨by omega, h _ _ _ _ ⟨hw, ⟨by omega, by omega⟩, hm, hb⟩⟩
    unfold bB4
    simp only [ag, bh, bd, aX, cr, aC, e_c, aD, bS, ne_eq, Int.reduceEq, not_false_eq_true, Int.reduceAbs, Nat.reduceLT, and_true, bR, aL, az, aI, pH, bH, au, aG, true_and]
    generalize decide ((t.fdiv 16).fmod 6 > 3) = z
    cases z with
    | false =>
      simp only [bg, bc, aj, ag, bA, dh, an, dO, ak, aX, e_c, aC, br, aD, bS, ne_eq, Int.reduceEq, not_false_eq_true, Int.reduceAbs, Nat.reduceLT, and_true, bR, cf, gq, lD, ap, am, cn, aN, aF, aO, true_and]
      exact fin b hb
    | true =>
      simp only [bv, ag, aH, aX, cr, aC, e_c, aD, bS, ne_eq, Int.reduceEq, not_false_eq_true, Int.reduceAbs, Nat.reduceLT, and_true, dz, an, ak, ap, am, dJ, bR, i_l, true_and]
      refine ⟨g1, ?_⟩
      have : (t.fdiv 16).fmod 2 = 0 ∨ (t.fdiv 16).fmod 2 = 1 := by omega
      rcases this with e | e
      · rw [e]
        simp only [Int.toNat_zero, List.getElem?_cons_zero, aM, aD, bR, ne_eq, Int.reduceEq, not_false_eq_true, bw, oq, aj, bc, ag, bA, dh, an, dO, ak, aX, e_c, aC, br, bS, Int.reduceAbs, Nat.reduceLT, and_true, cf, gq, lD, ap, am, cn, aN, aF, aO, true_and]
        exact fin _ ⟨f3, by omega⟩
      · rw [e]
        simp only [Int.toNat_one, List.getElem?_cons_succ, List.getElem?_cons_zero, aM, aD, bR, ne_eq, Int.reduceEq, not_false_eq_true, bw, oq, aj, bc, ag, bA, dh, an, dO, ak, aX, e_c, aC, br, bS, Int.reduceAbs, Nat.reduceLT, and_true, cf, gq, lD, ap, am, cn, aN, aF, aO, true_and]
        exact fin _ ⟨f7, by omega⟩
  have l3 : ∀ w m b : Int, (1 ≤ w ∧ w ≤ 20) → (0 ≤ m ∧ m ≤ 20) → (0 ≤ b ∧ b ≤ 20) → bB3 [some (.ilist (ns.map .int)), some (.int a), some (.int t), some (.int w), some (.int m), some (.int b)] σ (kFn Q) (eFn E) := by
    intro w m b hw hm hb
    unfold bB3
    simp only [ag, bh, bd, aX, cr, aC, e_c, aD, bS, ne_eq, Int.reduceEq, not_false_eq_true, Int.reduceAbs, Nat.reduceLT, and_true, bR, aL, az, aI, iO, bH, au, aG, true_and]
    generalize ((t.fdiv 16).fmod 6 == 2) = z
    cases z <;> simp only [bg, bc, aj, bv, ag, aH, aX, cr, aC, e_c, aD, bS, ne_eq, Int.reduceEq, not_false_eq_true, Int.reduceAbs, Nat.reduceLT, and_true, bR, bw, oq, true_and]
    · exact l4 _ _ _ hw hm hb
    · exact l4 _ _ _ hw hm ⟨f5, by omega⟩
  have l2 : ∀ w m b : Int, (1 ≤ w ∧ w ≤ 20) → (0 ≤ m ∧ m ≤ 20) → (0 ≤ b ∧ b ≤ 20) → bB2 [some (.ilist (ns.map .int)), some (.int a), some (.int t), some (.int w), some (.int m), some (.int b)] σ (kFn Q) (eFn E) := by
    intro w m b hw hm hb
    unfold bB2
    simp only [ag, bh, bd, aX, cr, aC, e_c, aD, bS, ne_eq, Int.reduceEq, not_false_eq_true, Int.reduceAbs, Nat.reduceLT, and_true, bR, aL, az, dh, an, ak, ap, am, cn, aI, Dk Cu, bH, au, aG, true_and]
    generalize List.any [1, 2] (fun x => x == (t.fdiv 16).fmod 6) = z
    cases z <;> simp only [bg, bc, aj, bv, ag, aH, aX, cr, aC, e_c, aD, bS, ne_eq, Int.reduceEq, not_false_eq_true, Int.reduceAbs, Nat.reduceLT, and_true, bR, bw, nD, true_and]
    · exact l3 _ _ _ hw hm hb
    · exact l3 _ _ _ hw ⟨f3, by omega⟩ hb
  simp only [bw, lW, aj, ag, aH, aX, e_c, aC, br, aD, bR, ne_eq, Int.reduceEq, not_false_eq_true, cf, mZ, cr, nD, bS, Int.reduceAbs, Nat.reduceLT, and_true, oq, true_and]
  unfold bB1
  simp only [ag, bh, bd, aX, br, aC, e_c, aD, bS, ne_eq, Int.reduceEq, not_false_eq_true, Int.reduceAbs, Nat.reduceLT, and_true, bR, aL, az, aI, iO, bH, au, aG, true_and]
  generalize ((a.fdiv 5).fmod 6 == 1) = z
  cases z <;> simp only [bg, bc, aj, bv, ag, aH, aX, e_c, aC, br, aD, bS, ne_eq, Int.reduceEq, not_false_eq_true, Int.reduceAbs, Nat.reduceLT, and_true, bR, cf, bw, mZ, true_and]
  · exact l2 _ _ _ ⟨by omega, by omega⟩ ⟨by omega, by omega⟩ ⟨by omega, by omega⟩
  · exact l2 _ _ _ ⟨by omega, by omega⟩ ⟨by omega, by omega⟩ ⟨by omega, by omega⟩
noncomputable def Sg1 (v : AV) : Prop := ∃ s : Str, v = .str s ∧ s.length = 1
theorem ones : ∀ {ys : List AV}, (∀ y ∈ ys, Sg1 y) → ∃ ss : List Str, ys = ss.map .str ∧ ∀ s ∈ ss, s.length = 1 := by
  intro ys
  induction ys with
  | nil => intro _; exact ⟨[], rfl, fun s h => nomatch h⟩
  | cons y ys ih =>
    intro h
    obtain ⟨s, rfl, hs⟩ := h y List.mem_cons_self
    obtain ⟨ss, rfl, hss⟩ := ih fun z hz => h z (List.mem_cons_of_mem _ hz)
    exact ⟨s :: ss, rfl, fun z hz => (List.mem_cons.mp hz).elim (fun e => e ▸ hs) (hss z)⟩
theorem Cm {a b c e f g h i j k : Option AV} : fP [3, 4] [a, b, c, e, f, g, h, i, j, k] = [Option.none, Option.none, Option.none, e, f, Option.none, Option.none, Option.none, Option.none, Option.none] := rfl
theorem BQ {a b c e f g h i j k : Option AV} : fP [2, 5, 6] [a, b, c, e, f, g, h, i, j, k] = [Option.none, Option.none, c, Option.none, Option.none, g, h, Option.none, Option.none, Option.none] := rfl
theorem Cs {a b c e f g h i j k : Option AV} : fP [2, 4] [a, b, c, e, f, g, h, i, j, k] = [Option.none, Option.none, c, Option.none, f, Option.none, Option.none, Option.none, Option.none, Option.none] := rfl
theorem Fo {x : Int} (h0 : 0 ≤ x) (h1 : x < 11) : (1 + x).natAbs < 9223372036854775808 := by omega
theorem Fr {y : Int} (h0 : 0 ≤ y) (h1 : y < 39) : y.natAbs < 1152921504606846976 ∧ y ≤ 1000000 := by omega
theorem Eo {y : Int} (h0 : 0 ≤ y) (h1 : y ≤ 100) : y.natAbs < 1152921504606846976 ∧ y ≤ 1000000 := by omega
theorem Dj {y : Int} {n : Nat} (h : n = (y - 0).toNat) (h1 : y < 39) : n ≤ 38 := by omega
theorem ne1 (n : Nat) : (n : Int) + 1 ≠ 0 := by omega
theorem ps1 (n : Nat) : 0 < (n : Int) + 1 := by omega
theorem so0 {x : Int} (h : 1 ≤ x) : x ≠ 0 := by omega
theorem so1 {x : Int} (h : 1 ≤ x) : 0 < x := h
theorem so2 {x y : Int} (h : x < y) (h' : y ≤ 100) : x < 1000000 := by omega
theorem Am {tl x : Str} {n : Nat} (h : tl.length ≤ 38) (hx : x.length ≤ 2) : (dI tl 0 n).length + x.length ≤ 1000000 ∧ (dI tl 0 n ++ x).length + (dI tl n tl.length).length ≤ 1000000 ∧ (dI tl 0 n ++ x ++ dI tl n tl.length).length ≤ 40 := by
  have c1 := mV tl 0 n
  have c2 := mV tl n tl.length
  have c4 := Str.length_append (dI tl 0 n) x
  have c5 := Str.length_append (dI tl 0 n ++ x) (dI tl n tl.length)
  omega
theorem yb {c mn so : Int} (h0 : 1 ≤ so) (h1 : so ≤ 100) (m0 : 0 ≤ mn) (m1 : mn ≤ 100) (h : ∀ ts : List AV, ts.length = mn.toNat → (∀ v ∈ ts, S40 v) → Q (.ilist ts) σ) : wpF prg (d + 2) 37 [.int c, .int mn, .int so] σ Q E := by
  refine aT (fi := Ad) rfl rfl ?_
  have sl : (Str.ofString " !\"#$&'()*+,-./:;<=>?@ABCDEFGHIJKLMNOPQRSTUVWXYZ[\\]^_abcdefghijklmnopqrstuvwxyz{|}~").length = 83 := by decide +kernel
  simp only [Ad, List.map_cons, List.map_nil, Nat.reduceSub, List.replicate_succ, List.replicate_zero, List.cons_append, List.nil_append, w37, ag, aH, e_c, bw, mZ, aj, aR, an, aP, ak, ap, am, aE]
  generalize Str.ofString " !\"#$&'()*+,-./:;<=>?@ABCDEFGHIJKLMNOPQRSTUVWXYZ[\\]^_abcdefghijklmnopqrstuvwxyz{|}~" = sm at sl ⊢
  refine lC (by decide) ?_
  generalize (c * 48271 + 7919 * (5 + 1) * (5 + 3)).fmod 2147483647 = nb
  simp only [bw, nD, aj, ag, aH, lM, e_c, fH (rc := rcS) (v := .str (Str.ofString "")) (σ := σ) ⟨_, rfl⟩, an]
  rw [rU]
  refine ⟨rfl, ?_⟩
  rw [Cm]
  simp only [lO, an, aX, gq, aC, e_c, aD, bS, ne_eq, Int.reduceEq, not_false_eq_true, Int.reduceAbs, Nat.reduceLT, and_true, bR, ak, ap, am, rW, Nat.reducePow, nq, true_and]
  have y0 := bL (a := nb.fdiv 77) (b := 39) (by decide)
  have y1 := bW (a := nb.fdiv 77) (b := 39) (by decide)
  generalize (nb.fdiv 77).fmod 39 = y at y0 y1 ⊢
  refine ⟨Fr y0 y1, ?_⟩
  refine my Sg1 trivial _ _ (fun x hx R hR => ?_) fun ys yl yt => ?_
  · obtain ⟨j, _, rfl⟩ := List.mem_map.mp hx
    have e1 : (sm.length : Int) ≠ 0 := by rw [sl]; decide
    simp only [qL, AE, aX, dO, aC, gq, e_c, aD, bS, ne_eq, Int.reduceEq, not_false_eq_true, Int.reduceAbs, Nat.reduceLT, and_true, yA, bR, cf, AY, Nat.reducePow, cH, an, ak, ap, am, cz, il (show sm.length ≤ 1000000 by rw [sl]; decide), e1, true_and]
    have z0 := bL (a := nb) (b := 11) (by decide)
    have z1 := bW (a := nb) (b := 11) (by decide)
    refine ⟨.inr (Fo z0 z1), ?_⟩
    have i0 := bL (a := nb.fdiv 7 + (0 + (j : Int)) * (1 + nb.fmod 11)) (b := (sm.length : Int)) (by rw [sl]; decide)
    have i1 := bW (a := nb.fdiv 7 + (0 + (j : Int)) * (1 + nb.fmod 11)) (b := (sm.length : Int)) (by rw [sl]; decide)
    exact ⟨_, _, rfl, rfl, ⟨i0, i1, by rw [sl]; decide⟩, fun y hy => hR _ ⟨y, rfl, hy⟩⟩
  obtain ⟨ss, rfl, hss⟩ := ones yt
  rw [lh, List.length_map] at yl
  rw [List.nil_append]
  simp only [oH, ak, ap, am, eE]
  refine ⟨_, ss, rfl, rfl, ⟨by decide +kernel, hss, Nat.le_trans (Dj yl y1) (by decide)⟩, fun tl tl1 => ?_⟩
  have tl2 : tl.length ≤ 38 := by rw [tl1]; exact Dj yl y1
  have tl6 : tl.length ≤ 1000000 := Nat.le_trans tl2 (by decide)
  have e2 : (tl.length : Int) + 1 ≠ 0 := ne1 _
  simp only [bw, oq, aj, ag, aH, aX, gq, aC, e_c, aD, bS, ne_eq, Int.reduceEq, not_false_eq_true, Int.reduceAbs, Nat.reduceLT, and_true, cH, an, lD, ak, ap, am, cz, il tl6, cf, bR, e2, zm, true_and]
  have a0 := bL (a := nb.fdiv 5000) (b := (tl.length : Int) + 1) (ps1 _)
  generalize (nb.fdiv 5000).fmod ((tl.length : Int) + 1) = ah at a0 ⊢
  rw [rU]
  refine ⟨rfl, ?_⟩
  rw [BQ]
  simp only [lO, an, br, ak, ap, am, rW, Nat.reducePow, nq]
  refine ⟨Eo m0 m1, ?_⟩
  refine my S40 trivial _ _ (fun x hx R hR => ?_) fun ts tn tt => ?_
  · obtain ⟨j, _, rfl⟩ := List.mem_map.mp hx
    have sn : so ≠ 0 := so0 h0
    simp only [qL, AE, aX, lD, aC, yx, aD, AD, cH, an, yA, cr, bR, ne_eq, sn, not_false_eq_true, ak, ap, am, cz, rS, rL, zL, true_and]
    refine ⟨⟨a0, tl6⟩, ?_⟩
    have q0 := bL (a := 0 + (j : Int)) (b := so) (so1 h0)
    have q1 := bW (a := 0 + (j : Int)) (b := so) (so1 h0)
    refine ⟨⟨q0, so2 q1 h1⟩, ?_⟩
    generalize (0 + (j : Int)).fmod so = k at q0 q1 ⊢
    have c3 : (fY k).length ≤ 2 := PyProof.Rows.toString_length_le q0 (by decide) (Int.lt_of_lt_of_le q1 h1)
    obtain ⟨v1, v2, v3⟩ := Am (n := ah.toNat) tl2 c3
    refine ⟨v1, ⟨a0, tl6⟩, v2, ?_⟩
    exact hR _ ⟨_, rfl, v3⟩
  rw [lh] at tn
  rw [List.nil_append]
  simp only [oH, bw, CQ, aj, ag, bh, bd, aX, gq, aC, e_c, aD, bS, ne_eq, Int.reduceEq, not_false_eq_true, Int.reduceAbs, Nat.reduceLT, and_true, bR, aL, az, aI, iO, bH, au, aG, true_and]
  cases hc : ((nb.fdiv 200).fmod 4 == 1) with
  | false =>
    simp only [bg, bc, aj, ag, bA, qR, aN, aF, aO]
    exact h ts (by rw [tn, Int.sub_zero]) tt
  | true =>
    simp only [bv, ag, aH]
    rw [rU]
    refine ⟨rfl, ?_⟩
    rw [Cs]
    simp only [yY, an, qR, ak, ap, am, ER, nq]
    have el : (mR ts).length = ts.length := by unfold mR; rw [List.length_map, List.length_zipIdx]
    refine my S40 trivial _ _ (fun x hx R hR => ?_) fun us un ut => ?_
    · obtain ⟨i, hi⟩ := List.getElem?_of_mem hx
      obtain ⟨y, hy, rfl⟩ := sX hi
      have sy := tt y (List.mem_of_getElem? hy)
      have sn : so ≠ 0 := so0 h0
      simp only [Af, AE, Em, aX, dz, an, yz, ak, e_c, ap, am, dJ, aC, cH, bd, yA, cr, aD, bR, ne_eq, sn, not_false_eq_true, aL, az, gq, bS, Int.reduceEq, Int.reduceAbs, Nat.reduceLT, and_true, aI, iO, bH, au, cz, CE, true_and]
      cases hb : ((i : Int).fmod so == (nb.fdiv 800).fmod so) with
      | true =>
        simp only [if_true, i_l, Int.reduceLE, Int.toNat_one, List.getElem?_cons_succ, List.getElem?_cons_zero, aM, true_and]
        exact hR _ ⟨_, rfl, by decide +kernel⟩
      | false =>
        simp only [Bool.false_eq_true, if_false, i_l, Int.le_refl, Int.toNat_zero, List.getElem?_cons_zero, aM, true_and]
        exact hR _ sy
    rw [List.nil_append]
    simp only [oH, bw, CQ, aj, bc, ag, bA, qR, aN, aF, aO]
    exact h us (by rw [un, el, tn, Int.sub_zero]) ut
end Ap.L13
end
section
namespace Ap.L13
open PySem PySem.W
variable {d : Nat} {σ σ' : St} {Q : PQ} {E : PE}
noncomputable def NT (n : Nat) : List Nat := (Nat.toDigits 10 n).map Char.toNat
noncomputable def oS (r : List Nat) : Prop := ∀ c ∈ r, xt c
noncomputable def Lead (r : List Nat) : Prop := r.head? = some 48 ∧ r ≠ [48]
theorem mT {n : Nat} (h : n < 10) : NT n = [48 + n] := by
  unfold NT
  rw [Nat.toDigits_of_lt_base h]
  have : n = 0 ∨ n = 1 ∨ n = 2 ∨ n = 3 ∨ n = 4 ∨ n = 5 ∨ n = 6 ∨ n = 7 ∨ n = 8 ∨ n = 9 := by omega
  rcases this with rfl | rfl | rfl | rfl | rfl | rfl | rfl | rfl | rfl | rfl <;> rfl
theorem zl {q e : Nat} (h : 0 < q) (he : e < 10) : NT (10 * q + e) = NT q ++ [48 + e] := by
  have t := Nat.toDigits_append_toDigits (b := 10) (by decide) h he
  unfold NT
  rw [← t, List.map_append]
  have := mT he
  unfold NT at this
  rw [this]
theorem sq {n : Nat} (h : 10 ≤ n) : NT n = NT (n / 10) ++ [48 + n % 10] := by
  have := zl (q := n / 10) (e := n % 10) (by omega) (by omega)
  rw [Nat.div_add_mod] at this
  exact this
theorem AQ (n : Nat) : NT n ≠ [] := by
  by_cases h : n < 10
  · rw [mT h]; exact List.cons_ne_nil _ _
  · rw [sq (by omega)]; simp
theorem Ey (n : Nat) : oS (NT n) := by
  induction n using Nat.strongRecOn with
  | _ n ih =>
    by_cases h : n < 10
    · rw [mT h]
      intro c hc
      rw [List.mem_singleton.mp hc]
      exact ⟨by omega, by omega⟩
    · rw [sq (by omega)]
      intro c hc
      rcases List.mem_append.mp hc with hc | hc
      · exact ih (n / 10) (by omega) c hc
      · rw [List.mem_singleton.mp hc]
        exact ⟨by omega, by omega⟩
theorem qk (r : List Nat) (c : Nat) : mM (r ++ [c]) = mM r * 10 + (c - 48) := by
  unfold mM
  rw [List.foldl_append]; rfl
theorem Ce (n : Nat) : mM (NT n) = n := by
  induction n using Nat.strongRecOn with
  | _ n ih =>
    by_cases h : n < 10
    · rw [mT h]
      show 0 * 10 + (48 + n - 48) = n
      omega
    · rw [sq (by omega), qk, ih (n / 10) (by omega)]
      omega
theorem yZ (n : Nat) (h : (NT n).head? = some 48) : n = 0 := by
  induction n using Nat.strongRecOn with
  | _ n ih =>
    by_cases h1 : n < 10
    · rw [mT h1] at h
      have : 48 + n = 48 := by simpa using h
      omega
    · rw [sq (by omega)] at h
      have h2 : (NT (n / 10)).head? = some 48 := by
        cases e : NT (n / 10) with
        | nil => exact absurd e (AQ _)
        | cons a l => rw [e] at h; exact h
      have := ih (n / 10) (by omega) h2
      omega
theorem wn (n : Nat) : ¬ Lead (NT n) := fun ⟨h1, h2⟩ => by
  have := yZ n h1
  subst this
  exact h2 (mT (by decide))
theorem ny {x y : Str} (h : cs x = cs y) : x = y := by
  obtain ⟨a⟩ := x; obtain ⟨b⟩ := y
  exact congrArg Str.mk (Array.toList_inj.mp h)
theorem qI (n : Nat) : cs (fY n) = NT n := KIN.signs_num n
theorem xJ (x y : Str) : cs (x ++ y) = cs x ++ cs y := by
  show (x.cps ++ y.cps).toList = _
  rw [Array.toList_append]
theorem mm (x : Str) : (cs x).length = x.length := rfl
theorem ul (x : Str) (a b : Nat) : cs (dI x a b) = ((cs x).take b).drop a := List.toList_toArray
noncomputable def NumOk (r : List Nat) : Prop := (1 ≤ r.length ∧ r.length ≤ 6) ∧ ¬ Lead r ∧ oS r
theorem xA : ∀ (k n : Nat), n < 10 ^ (k + 1) → (NT n).length ≤ k + 1 := by
  intro k
  induction k with
  | zero => intro n h; rw [mT (by simpa using h)]; exact Nat.le_refl _
  | succ k ih =>
    intro n h
    by_cases h1 : n < 10
    · rw [mT h1]; simp
    · rw [sq (by omega), List.length_append]
      have := ih (n / 10) (by rw [Nat.pow_succ] at h; omega)
      simp; omega
theorem NumOk.of {n : Nat} (h : n < 1000000) : NumOk (NT n) := ⟨⟨by have := AQ n; cases e : NT n with | nil => exact absurd e this | cons => simp, xA 5 n h⟩, wn n, Ey n⟩
theorem zj : ∀ (r : List Nat), oS r → mM r < 10 ^ r.length := by
  intro r
  have key : ∀ (m : Nat) (r : List Nat), r.length = m → oS r → mM r < 10 ^ r.length := by
    intro m
    induction m with
    | zero => intro r h _; rw [List.eq_nil_of_length_eq_zero h]; decide
    | succ m ih =>
      intro r hl hd
      obtain ⟨p, c, rfl⟩ : ∃ p c, r = p ++ [c] := ⟨r.dropLast, r.getLast (by intro e; rw [e] at hl; cases hl), (List.dropLast_concat_getLast _).symm⟩
      rw [List.length_append] at hl ⊢
      have hpl : p.length = m := by simpa using hl
      have := ih p hpl fun x hx => hd x (List.mem_append_left _ hx)
      have hc := hd c (List.mem_append_right _ List.mem_cons_self)
      obtain ⟨h1, h2⟩ := hc
      rw [qk, show p.length + [c].length = p.length + 1 from rfl, Nat.pow_succ]
      omega
  exact key _ r rfl
theorem Bb {a b : Str} {K : Bool → Prop} : cNe (.str a) (.str b) σ K = K (!(a == b)) := CK (p := .str a) (q := .str b) rfl rfl
theorem dsL : cs (Str.ofString "0123456789") = [48, 49, 50, 51, 52, 53, 54, 55, 56, 57] := by decide +kernel
theorem ds_mem {c : Nat} : (cs (Str.ofString "0123456789")).contains c = true ↔ xt c := by
  rw [dsL, List.contains_iff_mem]
  constructor
  · intro h
    simp only [List.mem_cons, List.not_mem_nil, or_false] at h
    exact ⟨by omega, by omega⟩
  · rintro ⟨h1, h2⟩
    simp only [List.mem_cons, List.not_mem_nil, or_false]
    omega
theorem DW {c : Nat} (h : ¬ xt c) : (cs (Str.ofString "0123456789")).contains c = false := by
  cases e : (cs (Str.ofString "0123456789")).contains c with
  | false => rfl
  | true => exact absurd (ds_mem.mp e) h
theorem emp : Str.ofString "" = Str.empty := by decide +kernel
theorem xH (x : Str) : (x == Str.ofString "") = decide (cs x = []) := by
  rw [emp]
  by_cases h : cs x = []
  · have : x = Str.empty := ny h
    subst this
    rw [decide_eq_true h]; exact beq_self_eq_true _
  · rw [decide_eq_false h, beq_eq_false_iff_ne]
    intro e; subst e; exact h rfl
theorem qK {x : Str} {i : Int} {c : Nat} (h0 : 0 ≤ i) (hl : x.length ≤ 1000000) (h : (cs x)[i.toNat]? = some c) : tW (.str x) (.int i) σ Q = Q (.str (ch c)) σ := propext ⟨fun ⟨_, _, _, e1, e2, _, e3, q⟩ => by cases e1; cases e2; rw [h] at e3; cases e3; exact q, fun q => ⟨_, _, _, rfl, rfl, ⟨h0, hl⟩, h, q⟩⟩
theorem sA {KX : List AV → (St → Prop) → St → Prop} {e : WE} {ρ : Loc} : uc e ρ σ KX E = e ρ σ (kXC KX) E := rfl
theorem Ba {KX : List AV → (St → Prop) → St → Prop} {x : Str} (h : x.length ≤ 1000000) : kXC KX (.str x) σ = KX (chars x) (fun _ => True) σ := propext ⟨fun ⟨_, e, _, q⟩ => by cases e; exact q, fun q => ⟨_, rfl, h, q⟩⟩
theorem uv {c : Nat} {y : Str} {K : Bool → Prop} : vp (.str (ch c)) (.str y) σ K = K (!((cs y).contains c)) := propext ⟨fun ⟨c', _, e1, e2, q⟩ => by
    cases e2
    have : c' = c := by
      have h : (AV.str (ch c)) = .str (ch c') := e1
      injection h with h
      injection h with h
      injection h with h
      injection h with h
      exact h.symm
    rw [this] at q; exact q, fun q => ⟨_, _, rfl, rfl, q⟩⟩
noncomputable def uE : WS := (ad (bY (bG (ac 1) (aS vp (vC (.str (Str.ofString "0123456789"))) bF)) (ad (dW 7) ay) ay) ay)
theorem CO {QQ : QS} {EE : ES} {p : Option AV} : ∀ (l : List Nat), oS l → ∀ o, (∀ o', QQ .next [p, o'] σ) → forL (fun _ => True) (nh 1 uE EE) (l.map fun c => .str (ch c)) [p, o] σ QQ := by
  intro l
  induction l with
  | nil => intro _ o h; exact ⟨trivial, h o⟩
  | cons c l ih =>
    intro hd o h
    refine ⟨trivial, ?_⟩
    have hc : (cs (Str.ofString "0123456789")).contains c = true := ds_mem.mpr (hd c List.mem_cons_self)
    unfold uE
    simp only [iq, pP, ag, bh, bd, br, aL, az, e_c, aI, uv, hc, cP, bI, au, aG, bg, bc, aj, oj]
    exact ih (fun x hx => hd x (List.mem_cons_of_mem _ hx)) _ h
theorem CW {QQ : QS} {EE : ES} {p : Option AV} : ∀ (l : List Nat), ¬ oS l → ∀ o, (∀ o', EE 7 [p, o'] σ) → forL (fun _ => True) (nh 1 uE EE) (l.map fun c => .str (ch c)) [p, o] σ QQ := by
  intro l
  induction l with
  | nil => intro hd; exact absurd (fun c hc => nomatch hc) hd
  | cons c l ih =>
    intro hd o h
    refine ⟨trivial, ?_⟩
    by_cases hg : xt c
    · have hc : (cs (Str.ofString "0123456789")).contains c = true := ds_mem.mpr hg
      have := ih (fun q => hd fun x hx => (List.mem_cons.mp hx).elim (fun e => e ▸ hg) (q x))
      unfold uE at this ⊢
      simp only [iq, pP, ag, bh, bd, br, aL, az, e_c, aI, uv, hc, cP, bI, au, aG, bg, bc, aj, oj]
      exact this _ h
    · have hc := DW hg
      unfold uE
      simp only [iq, pP, ag, bh, bd, br, aL, az, e_c, aI, uv, hc, dr, bV, cJ, au, aG, bv, dP]
      exact h _
theorem DO (c : Nat) : (ch c == Str.ofString "0") = decide (c = 48) := by
  have e0 : Str.ofString "0" = ch 48 := by decide +kernel
  rw [e0]
  by_cases h : c = 48
  · subst h; rw [decide_eq_true rfl]; exact beq_self_eq_true _
  · rw [decide_eq_false h, beq_eq_false_iff_ne]
    intro e
    have := congrArg cs e
    exact h (List.cons.inj this).1
theorem Ec (x : Str) : (x == Str.ofString "0") = decide (cs x = [48]) := by
  have e0 : Str.ofString "0" = ch 48 := by decide +kernel
  rw [e0]
  by_cases h : cs x = [48]
  · have : x = ch 48 := ny h
    subst this
    rw [decide_eq_true h]; exact beq_self_eq_true _
  · rw [decide_eq_false h, beq_eq_false_iff_ne]
    intro e; subst e; exact h rfl
theorem vX {x : Str} (hl : x.length ≤ 1000) (yes : NumOk (cs x) → Q (.int (mM (cs x) : Nat)) σ) (no : ¬ NumOk (cs x) → E 7 σ) : wpF prg (d + 1) 30 [.str x] σ Q E := by
  refine aT (fi := sw) rfl rfl ?_
  have hcl := mm x
  by_cases h1 : 1 ≤ x.length ∧ x.length ≤ 6
  · obtain ⟨c, l, hx⟩ : ∃ c l, cs x = c :: l := by
      cases e : cs x with
      | nil => rw [e] at hcl; simp at hcl; omega
      | cons c l => exact ⟨c, l, rfl⟩
    have d1 : decide ((1 : Int) ≤ (x.length : Int)) = true := decide_eq_true (by omega)
    have d2 : decide ((x.length : Int) ≤ 6) = true := decide_eq_true (by omega)
    have g0 : (cs x)[(0 : Int).toNat]? = some c := by rw [hx]; rfl
    have loop : ∀ (_ : ¬ Lead (cs x)), forL (fun _ => True) (nh 1 uE (eFn E)) (chars x) [some (.str x), Option.none] σ (vL (ad (bP (vON vw (aa (ac 0) ar))) ay) (kFn Q) (eFn E)) := fun hn => by
      by_cases hd : oS (cs x)
      · refine CO (cs x) hd _ fun o' => ?_
        simp only [aj, ag, bA, cH, an, aP, ak, ap, am, cz]
        exact ⟨x, rfl, ⟨hd, by rw [hx]; exact List.cons_ne_nil _ _, by omega⟩, yes ⟨⟨by omega, by omega⟩, hn, hd⟩⟩
      · exact CW (cs x) hd _ fun o' => no fun q => hd q.2.2
    unfold uE at loop
    by_cases h2 : c = 48
    · have c1 : (ch c == Str.ofString "0") = true := by rw [DO]; exact decide_eq_true h2
      by_cases h3 : cs x = [48]
      · have c2 : (x == Str.ofString "0") = true := by rw [Ec]; exact decide_eq_true h3
        simp only [sw, List.map_cons, List.map_nil, Nat.reduceSub, List.replicate_succ, List.replicate_zero, List.cons_append, List.nil_append, w30, ag, bh, fb, aQ, bQ, bd, e_c, aL, az, cH, an, aP, ak, ap, am, cz, il (show x.length ≤ 1000000 by omega), aI, pJ, d1, bV, d2, cJ, au, bN, cm, cP, aG, bJ, fc, dr, bE, aX, aC, aD, qK (Int.le_refl 0) (show x.length ≤ 1000000 by omega) g0, eI, c1, gj, Bb, c2, bI, bU, dC, bg, bc, aj, qt, sA, Ba (show x.length ≤ 1000000 by omega), nB]
        exact loop fun q => q.2 h3
      · have c2 : (x == Str.ofString "0") = false := by rw [Ec]; exact decide_eq_false h3
        simp only [sw, List.map_cons, List.map_nil, Nat.reduceSub, List.replicate_succ, List.replicate_zero, List.cons_append, List.nil_append, w30, ag, bh, fb, aQ, bQ, bd, e_c, aL, az, cH, an, aP, ak, ap, am, cz, il (show x.length ≤ 1000000 by omega), aI, pJ, d1, bV, d2, cJ, au, bN, cm, cP, aG, bJ, fc, dr, bE, aX, aC, aD, qK (Int.le_refl 0) (show x.length ≤ 1000000 by omega) g0, eI, c1, gj, Bb, c2, dC, bU, bv, dP, kg]
        exact no fun q => q.2.1 ⟨by rw [hx, h2]; rfl, h3⟩
    · have c1 : (ch c == Str.ofString "0") = false := by rw [DO]; exact decide_eq_false h2
      simp only [sw, List.map_cons, List.map_nil, Nat.reduceSub, List.replicate_succ, List.replicate_zero, List.cons_append, List.nil_append, w30, ag, bh, fb, aQ, bQ, bd, e_c, aL, az, cH, an, aP, ak, ap, am, cz, il (show x.length ≤ 1000000 by omega), aI, pJ, d1, bV, d2, cJ, au, bN, cm, cP, aG, bJ, fc, dr, bE, aX, aC, aD, qK (Int.le_refl 0) (show x.length ≤ 1000000 by omega) g0, eI, c1, bI, gj, bU, dC, bg, bc, aj, qt, sA, Ba (show x.length ≤ 1000000 by omega), nB]
      exact loop fun q => h2 (by have := q.1; rw [hx] at this; exact Option.some.inj this)
  · have nk : ¬ NumOk (cs x) := fun q => h1 ⟨by have := q.1.1; omega, by have := q.1.2; omega⟩
    by_cases h2 : 1 ≤ x.length
    · have d1 : decide ((1 : Int) ≤ (x.length : Int)) = true := decide_eq_true (by omega)
      have d2 : decide ((x.length : Int) ≤ 6) = false := decide_eq_false (by omega)
      simp only [sw, List.map_cons, List.map_nil, Nat.reduceSub, List.replicate_succ, List.replicate_zero, List.cons_append, List.nil_append, w30, ag, bh, fb, aQ, bQ, bd, e_c, aL, az, cH, an, aP, ak, ap, am, cz, il (show x.length ≤ 1000000 by omega), aI, pJ, d1, bV, d2, bI, au, bN, cm, dr, aG, bJ, fc, cP, bU, bv, dP, kg]
      exact no nk
    · have d1 : decide ((1 : Int) ≤ (x.length : Int)) = false := decide_eq_false (by omega)
      simp only [sw, List.map_cons, List.map_nil, Nat.reduceSub, List.replicate_succ, List.replicate_zero, List.cons_append, List.nil_append, w30, ag, bh, fb, aQ, bQ, bd, e_c, aL, az, cH, an, aP, ak, ap, am, cz, il (show x.length ≤ 1000000 by omega), aI, pJ, d1, bI, au, bN, cm, dr, aG, bJ, fc, cP, bU, bv, dP, kg]
      exact no nk
theorem Bn : cs (Str.ofString "send") = [115, 101, 110, 100] := by decide +kernel
theorem AW : cs (Str.ofString "hand") = [104, 97, 110, 100] := by decide +kernel
theorem AU : cs (Str.ofString "tell") = [116, 101, 108, 108] := by decide +kernel
theorem spc : Str.ofString " " = ch 32 := by decide +kernel
theorem sF {w : Str} (h : w ∈ Ws) : (cs w).length = 4 ∧ 32 ∉ cs w := by
  unfold Ws at h
  simp only [List.mem_cons, List.not_mem_nil, or_false] at h
  rcases h with rfl | rfl | rfl
  · rw [Bn]; exact ⟨rfl, by decide⟩
  · rw [AW]; exact ⟨rfl, by decide⟩
  · rw [AU]; exact ⟨rfl, by decide⟩
noncomputable def Cut (x w r : Str) : Prop := cs x = cs w ++ 32 :: cs r
theorem AJ {c : Nat} : ∀ {a b : List Nat}, c ∉ a → (a ++ c :: b).idxOf c = a.length := by
  intro a
  induction a with
  | nil => intro b _; rw [List.nil_append, List.idxOf_cons_self]; rfl
  | cons x a ih =>
    intro b h
    have ne : (x == c) = false := beq_eq_false_iff_ne.mpr (fun e => h (by rw [e]; exact List.mem_cons_self))
    rw [List.cons_append, List.idxOf_cons, ne]
    show (a ++ c :: b).idxOf c + 1 = _
    rw [ih fun q => h (List.mem_cons_of_mem _ q)]; rfl
theorem vu {x w r : Str} (h : Cut x w r) (hw : 32 ∉ cs w) : (cs x).idxOf 32 = (cs w).length := by
  rw [h]; exact AJ hw
theorem oC {x w r w' r' : Str} (h : Cut x w r) (hw : 32 ∉ cs w) (h' : Cut x w' r') (hw' : 32 ∉ cs w') : w = w' ∧ r = r' := by
  have e1 := vu h hw
  have e2 := vu h' hw'
  have hh : cs w ++ 32 :: cs r = cs w' ++ 32 :: cs r' := h.symm.trans h'
  obtain ⟨a, b⟩ := List.append_inj hh (by omega)
  exact ⟨ny a, ny (List.cons.inj b).2⟩
theorem BR {x : Str} (h : 32 ∈ cs x) : Cut x (dI x 0 ((cs x).idxOf 32)) (dI x ((cs x).idxOf 32 + 1) x.length) ∧ 32 ∉ cs (dI x 0 ((cs x).idxOf 32)) := by
  obtain ⟨h1, h2⟩ := qg h
  have hl := mm x
  obtain ⟨hlt, e⟩ := List.getElem?_eq_some_iff.mp h1
  refine ⟨?_, fun q => ?_⟩
  · unfold Cut
    have e1 : cs (dI x 0 ((cs x).idxOf 32)) = (cs x).take ((cs x).idxOf 32) := by rw [ul, List.drop_zero]
    have e2 : cs (dI x ((cs x).idxOf 32 + 1) x.length) = (cs x).drop ((cs x).idxOf 32 + 1) := by rw [ul, List.take_of_length_le (Nat.le_of_eq (mm x))]
    rw [e1, e2]
    have := List.take_append_drop ((cs x).idxOf 32) (cs x)
    rw [List.drop_eq_getElem_cons hlt, e] at this
    exact this.symm
  · rw [ul, List.drop_zero] at q
    obtain ⟨k, hk⟩ := List.getElem?_of_mem q
    have hk' : k < (cs x).idxOf 32 := by
      have := (List.getElem?_eq_some_iff.mp hk).1
      rw [List.length_take] at this; omega
    rw [List.getElem?_take_of_lt hk'] at hk
    have := h2 k hk
    omega
noncomputable def Says (x w r : Str) : Prop := w ∈ Ws ∧ Cut x w r ∧ NumOk (cs r)
theorem pT {x w r w' r' : Str} (h : Says x w r) (h' : w' ∈ Ws) (c : Cut x w' r') : w = w' ∧ r = r' := oC h.2.1 (sF h.1).2 c (sF h').2
theorem yS {keys : List Str} {x : Str} : yC keys Q (.str x) σ = Q (.bool (!(keys.any (· == x)))) σ := propext ⟨fun ⟨_, e, q⟩ => by cases e; exact q, fun q => ⟨_, rfl, q⟩⟩
theorem vj {keys : List Str} {e : WE} {ρ : Loc} : xi keys e ρ σ Q E = e ρ σ (yC keys Q) E := rfl
theorem BX {x : Str} {c : Nat} (h : x.length ≤ 1000000) : yO (.str x) [.str (ch c)] σ Q = Q (.tup (tj x c)) σ := propext ⟨fun ⟨_, c', e1, e2, _, q⟩ => by
    cases e1
    have : c' = c := by
      have h : (AV.str (ch c)) = .str (ch c') := (List.cons.inj e2).1
      injection h with h
      injection h with h
      injection h with h
      injection h with h
      exact h.symm
    rw [this] at q; exact q, fun q => ⟨_, _, rfl, rfl, h, q⟩⟩
theorem wQ : [Str.ofString "send", Str.ofString "hand", Str.ofString "tell"] = Ws := rfl
theorem vx {x : Str} (hl : x.length ≤ 1000) (yes : ∀ w r, Says x w r → Q (.tup [.str w, .int (mM (cs r) : Nat)]) σ) (no : (∀ w r, ¬ Says x w r) → E 7 σ) : wpF prg (d + 3) 31 [.str x] σ Q E := by
  refine aT (fi := wk) rfl rfl ?_
  have hx1 : x.length ≤ 1000000 := by omega
  simp only [wk, List.map_cons, List.map_nil, Nat.reduceSub, List.replicate_succ, List.replicate_zero, List.cons_append, List.nil_append, w31, spc, ag, bh, bQ, aP, bN, iU (v := .str _) rfl, As, cm, cP, aG, bg, bc, aj, qr, lM, fH (rc := rcS) (v := .str x) (σ := σ) ⟨_, rfl⟩, an, e_c, ak, ap, am, eE, BX hx1]
  unfold tj
  by_cases h : 32 ∈ cs x
  · obtain ⟨hc, hn⟩ := BR h
    rw [if_pos h]
    generalize hw : dI x 0 ((cs x).idxOf 32) = w at hc hn
    generalize hr : dI x ((cs x).idxOf 32 + 1) x.length = r at hc
    have rl : r.length ≤ 1000 := by
      have := congrArg List.length hc
      rw [List.length_append, List.length_cons, mm, mm, mm] at this
      omega
    have e32 : (ch 32 == Str.ofString "") = false := by rw [xH]; rfl
    simp only [wQ, fK (xs := [_, _, _]) (is := [_, _, _]) rfl, dj, pP, lW, mZ, du, aj, ag, bh, fb, aQ, vj, br, yS, aG, bJ, fc]
    cases hm : Ws.any (· == w) with
    | false =>
      simp only [dr, cP, bU, au, aG, bv, ag, dP, kg]
      refine no fun w' r' hs => ?_
      have := (pT hs hs.1 hs.2.1)
      have e := (oC hs.2.1 (sF hs.1).2 hc hn).1
      rw [e] at hs
      rw [ws_any.mpr hs.1] at hm; cases hm
    | true =>
      have hwm := ws_any.mp hm
      simp only [cP, dr, bE, aQ, bd, cr, aL, az, e_c, aI, eI, e32, bI, au, aG, bJ, fc, dC, bg, bc, aj, ag, aH, dh, an, br, ak, aR, dO, ap, am, aE]
      refine vX rl (fun ok => ?_) (fun nok => ?_)
      · simp only [ak, ap, am, cn, bw, nD, aj, ag, bh, bQ, aR, an, gq, aE]
        refine tm rfl rfl ?_
        have b1 := zj (cs r) ok.2.2
        have b2 : 10 ^ (cs r).length ≤ 10 ^ 6 := Nat.pow_le_pow_right (by decide) ok.1.2
        have hs : sg (.str w) (.int (mM (cs r) : Nat)) = true := by
          have e : sg (.str w) (.int (mM (cs r) : Nat)) = (Ws.any (· == w) && amongB (.int (mM (cs r) : Nat)) 0 999999) := rfl
          rw [e, hm, fM ⟨by omega, by omega⟩]; rfl
        rw [hs]
        simp only [bN, cm, cP, aG, bg, bc, aj, ag, bA, gq, aN, aF, aO]
        exact yes w r ⟨hwm, hc, ok⟩
      · refine no fun w' r' hs => ?_
        obtain ⟨e1, e2⟩ := oC hs.2.1 (sF hs.1).2 hc hn
        rw [e2] at hs
        exact nok hs.2.2
  · rw [if_neg h]
    have nos : ∀ w r, ¬ Says x w r := fun w r hs => h (by rw [hs.2.1]; exact List.mem_append_right _ List.mem_cons_self)
    have ee : (Str.empty == Str.ofString "") = true := by rw [xH]; rfl
    simp only [wQ, fK (xs := [_, _, _]) (is := [_, _, _]) rfl, dj, pP, lW, mZ, du, aj, ag, bh, fb, aQ, vj, br, yS, aG, bJ, fc]
    cases hm : Ws.any (· == x) with
    | false =>
      simp only [dr, cP, bU, au, aG, bv, ag, dP, kg]
      exact no nos
    | true =>
      simp only [cP, dr, bE, aQ, bd, cr, aL, az, e_c, aI, eI, ee, bV, cJ, au, aG, bJ, fc, bU, bv, ag, dP, kg]
      exact no nos
theorem yv {v : AV} (hp : cq v = true) (ht : kn .str v = false) (no : E 7 σ) : wpF prg (d + 3) 31 [v] σ Q E := by
  refine aT (fi := wk) rfl rfl ?_
  simp only [wk, List.map_cons, List.map_nil, Nat.reduceSub, List.replicate_succ, List.replicate_zero, List.cons_append, List.nil_append, w31, ag, bh, bQ, aP, bN, iU hp, ht, cm, dr, aG, bv, dP, kg]
  exact no
noncomputable def Bx (r : List Nat) : Bool := decide (1 ≤ r.length) && decide (r.length ≤ 6) && (r == [48] || !(r.head? == some 48)) && r.all fun c => decide (48 ≤ c) && decide (c ≤ 57)
noncomputable def yG (l : List Nat) : Bool := (l.take 5 == [115, 101, 110, 100, 32] || l.take 5 == [104, 97, 110, 100, 32] || l.take 5 == [116, 101, 108, 108, 32]) && Bx (l.drop 5)
theorem Ag {r : List Nat} (h : NumOk r) : Bx r = true := by
  obtain ⟨⟨h1, h2⟩, h3, h4⟩ := h
  unfold Bx
  rw [decide_eq_true h1, decide_eq_true h2]
  have e1 : (r == [48] || !(r.head? == some 48)) = true := by
    by_cases q : r = [48]
    · rw [q]; rfl
    · have : ¬ r.head? = some 48 := fun e => h3 ⟨e, q⟩
      rw [Bool.or_eq_true]; right
      rw [Bool.not_eq_true', beq_eq_false_iff_ne]; exact this
  rw [e1]
  show (true && true && true && _) = true
  simp only [Bool.and_true, Bool.true_and, List.all_eq_true]
  intro c hc
  obtain ⟨q1, q2⟩ := h4 c hc
  rw [decide_eq_true q1, decide_eq_true q2]; rfl
theorem wN {x w r : Str} (h : Says x w r) : yG (cs x) = true := by
  obtain ⟨hw, hc, hn⟩ := h
  have hn' := Ag hn
  have hc' : cs x = cs w ++ 32 :: cs r := hc
  unfold Ws at hw
  simp only [List.mem_cons, List.not_mem_nil, or_false] at hw
  rcases hw with rfl | rfl | rfl
  · rw [hc', Bn]; exact hn'
  · rw [hc', AW]; exact hn'
  · rw [hc', AU]; exact hn'
noncomputable def yV (v : AV) : Prop := (cq v = true ∧ kn .str v = false) ∨ ∃ x : Str, v = .str x ∧ x.length ≤ 1000 ∧ yG (cs x) = false
theorem yd {v : AV} (h : yV v) (no : E 7 σ) : wpF prg (d + 3) 31 [v] σ Q E := by
  rcases h with ⟨hp, ht⟩ | ⟨x, rfl, hl, hx⟩
  · exact yv hp ht no
  · exact vx hl (fun w r hs => by rw [wN hs] at hx; cases hx) fun _ => no
theorem spl : (Str.ofString " ").length = 1 := by decide +kernel
theorem oi {n : Int} (h0 : 0 ≤ n) (h1 : n ≤ 999999) : (fY n).length ≤ 6 := by
  obtain ⟨m, rfl⟩ := Int.eq_ofNat_of_zero_le h0
  have := xA 5 m (by omega)
  rw [← qI] at this; exact this
theorem sO {w : Str} {n : Int} (hw : w ∈ Ws) (h0 : 0 ≤ n) (h1 : n ≤ 999999) : (w ++ Str.ofString " ").length ≤ 5 ∧ (w ++ Str.ofString " " ++ fY n).length ≤ 11 := by
  have wl : w.length = 4 := (sF hw).1
  have := oi h0 h1
  have e1 := Str.length_append w (Str.ofString " ")
  have e2 := Str.length_append (w ++ Str.ofString " ") (fY n)
  have := spl
  omega
theorem vR {w : Str} {n : Int} (hw : w ∈ Ws) (h0 : 0 ≤ n) (h1 : n ≤ 999999) (h : Q (.tup [.str w, .int n]) σ) : wpF prg (d + 3) 31 [.str (w ++ Str.ofString " " ++ fY n)] σ Q E := by
  have ll := (sO hw h0 h1).2
  obtain ⟨m, rfl⟩ := Int.eq_ofNat_of_zero_le h0
  have hsay : Says (w ++ Str.ofString " " ++ fY m) w (fY m) := ⟨hw, by unfold Cut; rw [xJ, xJ, spc, List.append_assoc]; rfl, by rw [qI]; exact NumOk.of (by omega)⟩
  have hv : mM (cs (fY m)) = m := by rw [qI]; exact Ce m
  refine vx (Nat.le_trans ll (by decide)) (fun w' r' hs => ?_) (fun hno => absurd hsay (hno _ _))
  obtain ⟨e1, e2⟩ := pT hsay hs.1 hs.2.1
  subst e1; subst e2
  rw [hv]
  exact h
end Ap.L13
end
section
namespace Ap.L13
open PySem
variable {d : Nat} {σ σ' : St} {Q : PQ} {E : PE} {QQ : QS} {EE : ES}
structure LA where
  t : Nat
  o : Nat
  e : Nat
  l : Nat
  a : Nat
noncomputable abbrev mL (x1 x2 x3 x4 x5 x6 x7 x8 x9 : AV) : List (Str × AV) := [(Str.ofString "bounds", x1), (Str.ofString "ring", x2), (Str.ofString "texts", x3), (Str.ofString "base", x4), (Str.ofString "top", x5), (Str.ofString "out", x6), (Str.ofString "kept", x7), (Str.ofString "letters", x8), (Str.ofString "answers", x9)]
section
variable {x1 x2 x3 x4 x5 x6 x7 x8 x9 v : AV}
theorem da : aW (mL x1 x2 x3 x4 x5 x6 x7 x8 x9) (Str.ofString "bounds") = some x1 := by kernel_rfl
theorem kF : aW (mL x1 x2 x3 x4 x5 x6 x7 x8 x9) (Str.ofString "ring") = some x2 := by kernel_rfl
theorem rn : aW (mL x1 x2 x3 x4 x5 x6 x7 x8 x9) (Str.ofString "texts") = some x3 := by kernel_rfl
theorem er : aW (mL x1 x2 x3 x4 x5 x6 x7 x8 x9) (Str.ofString "base") = some x4 := by kernel_rfl
theorem pR : aW (mL x1 x2 x3 x4 x5 x6 x7 x8 x9) (Str.ofString "top") = some x5 := by kernel_rfl
theorem sW : aW (mL x1 x2 x3 x4 x5 x6 x7 x8 x9) (Str.ofString "out") = some x6 := by kernel_rfl
theorem oB : aW (mL x1 x2 x3 x4 x5 x6 x7 x8 x9) (Str.ofString "kept") = some x7 := by kernel_rfl
theorem dR : aW (mL x1 x2 x3 x4 x5 x6 x7 x8 x9) (Str.ofString "letters") = some x8 := by kernel_rfl
theorem dH : aW (mL x1 x2 x3 x4 x5 x6 x7 x8 x9) (Str.ofString "answers") = some x9 := by kernel_rfl
theorem Ch : co (Str.ofString "base") v (mL x1 x2 x3 x4 x5 x6 x7 x8 x9) = mL x1 x2 x3 v x5 x6 x7 x8 x9 := by kernel_rfl
theorem Dx : co (Str.ofString "top") v (mL x1 x2 x3 x4 x5 x6 x7 x8 x9) = mL x1 x2 x3 x4 v x6 x7 x8 x9 := by kernel_rfl
theorem wG : co (Str.ofString "letters") v [(Str.ofString "bounds", x1), (Str.ofString "ring", x2), (Str.ofString "texts", x3), (Str.ofString "base", x4), (Str.ofString "top", x5), (Str.ofString "out", x6), (Str.ofString "kept", x7)] = [(Str.ofString "bounds", x1), (Str.ofString "ring", x2), (Str.ofString "texts", x3), (Str.ofString "base", x4), (Str.ofString "top", x5), (Str.ofString "out", x6), (Str.ofString "kept", x7), (Str.ofString "letters", v)] := by kernel_rfl
theorem wh : co (Str.ofString "answers") v [(Str.ofString "bounds", x1), (Str.ofString "ring", x2), (Str.ofString "texts", x3), (Str.ofString "base", x4), (Str.ofString "top", x5), (Str.ofString "out", x6), (Str.ofString "kept", x7), (Str.ofString "letters", x8)] = mL x1 x2 x3 x4 x5 x6 x7 x8 v := by kernel_rfl
theorem FC {a b c e f g h : Str} : List.zip [a, b, c, e, f, g, h] [x1, x2, x3, x4, x5, x6, x7] = [(a, x1), (b, x2), (c, x3), (e, x4), (f, x5), (g, x6), (h, x7)] := rfl
end
noncomputable abbrev Bt (P : Pm) : AV := .tup [.int P.w, .int P.r, .int P.m, .int P.b]
noncomputable abbrev Md (B : LA) (P : Pm) (b t : Int) : AObj := .dictS (mL (Bt P) (.int P.g) (.ilist P.ts) (.int b) (.int t) (.obj B.o) (.obj B.e) (.obj B.l) (.obj B.a))
structure Lm (B : LA) (P : Pm) (M : Mo) (σ : St) : Prop where
  t : σ B.t = some (Md B P M.base M.top)
  o : σ B.o = some (.list M.own)
  e : σ B.e = some (.dictI M.early)
  l : σ B.l = some (.list M.F)
  a : σ B.a = some (.list M.G)
structure LD (B : LA) : Prop where
  d1 : B.o ≠ B.l
  d2 : B.o ≠ B.a
  d3 : B.l ≠ B.a
noncomputable def LA.all (B : LA) : List Nat := [B.t, B.o, B.e, B.l, B.a]
variable {B : LA} {P : Pm} {M : Mo}
theorem BP : B.t ∈ B.all := List.mem_cons_self
theorem Dn : B.o ∈ B.all := List.mem_cons_of_mem _ List.mem_cons_self
theorem Cn : B.e ∈ B.all := List.mem_cons_of_mem _ (List.mem_cons_of_mem _ List.mem_cons_self)
theorem DM : B.l ∈ B.all := List.mem_cons_of_mem _ (List.mem_cons_of_mem _ (List.mem_cons_of_mem _ List.mem_cons_self))
theorem Dl : B.a ∈ B.all := List.mem_cons_of_mem _ (List.mem_cons_of_mem _ (List.mem_cons_of_mem _ (List.mem_cons_of_mem _ List.mem_cons_self)))
theorem iR {c x : Nat} (hc : c ∉ B.all) (hx : x ∈ B.all) : c ≠ x := fun q => hc (q ▸ hx)
theorem Lm.same (L : Lm B P M σ) (k : ∀ c, σ c ≠ Option.none → σ' c = σ c) : Lm B P M σ' := by
  have k' : ∀ {c o}, σ c = some o → σ' c = some o := fun {c o} h => (k c (by rw [h]; intro q; cases q)).trans h
  exact ⟨k' L.t, k' L.o, k' L.e, k' L.l, k' L.a⟩
theorem Lm.fresh (L : Lm B P M σ) {c : Nat} {x : AObj} (hc : σ c = Option.none) : Lm B P M (upd σ c x) := L.same fun a h => ai _ _ fun q => h (q ▸ hc)
theorem Lm.span (L : Lm B P M σ) {b t : Int} : Lm B P { M with base := b, top := t } (upd σ B.t (Md B P b t)) where
  t := aq _ _ _
  o := (ai _ _ (aU L.o L.t (by intro h; cases h))).trans L.o
  e := (ai _ _ (aU L.e L.t (by intro h; cases h))).trans L.e
  l := (ai _ _ (aU L.l L.t (by intro h; cases h))).trans L.l
  a := (ai _ _ (aU L.a L.t (by intro h; cases h))).trans L.a
theorem Lm.pF (X : LD B) (L : Lm B P M σ) {xs : List AV} : Lm B P { M with F := xs } (upd σ B.l (.list xs)) where
  t := (ai _ _ (aU L.t L.l (by intro h; cases h))).trans L.t
  o := (ai _ _ X.d1).trans L.o
  e := (ai _ _ (aU L.e L.l (by intro h; cases h))).trans L.e
  l := aq _ _ _
  a := (ai _ _ (Ne.symm X.d3)).trans L.a
theorem Lm.pG (X : LD B) (L : Lm B P M σ) {xs : List AV} : Lm B P { M with G := xs } (upd σ B.a (.list xs)) where
  t := (ai _ _ (aU L.t L.a (by intro h; cases h))).trans L.t
  o := (ai _ _ X.d2).trans L.o
  e := (ai _ _ (aU L.e L.a (by intro h; cases h))).trans L.e
  l := (ai _ _ X.d3).trans L.l
  a := aq _ _ _
theorem Lm.tk (X : LD B) (L : Lm B P M σ) {p : Int} {G : List AV} {D : List (Int × AV)} (h2 : σ' B.o = some (.list G)) (h3 : σ' B.e = some (.dictI D)) (k : ∀ c, c ≠ B.o → c ≠ B.e → σ' c = σ c) : Lm B P { M with place := p, own := G, early := D } σ' where
  t := (k _ (aU L.t L.o (by intro h; cases h)) (aU L.t L.e (by intro h; cases h))).trans L.t
  o := h2
  e := h3
  l := (k _ (Ne.symm X.d1) (aU L.l L.e (by intro h; cases h))).trans L.l
  a := (k _ (Ne.symm X.d2) (aU L.a L.e (by intro h; cases h))).trans L.a
theorem nw {a c : Nat} {x : AObj} (hc : upd σ a x c = Option.none) : c ≠ a ∧ σ c = Option.none := by
  have h : c ≠ a := fun q => by rw [q, aq] at hc; cases hc
  exact ⟨h, by rw [ai _ _ h] at hc; exact hc⟩
theorem xO (h : ∀ (B : LA) σ', LD B → Lm B P ⟨0, 0, 0, [], [], [], []⟩ σ' → (∀ c, σ c ≠ Option.none → σ' c = σ c) → (∀ c ∈ B.all, σ c = Option.none) → Q (.obj B.t) σ') : wpF prg (d + 1) 38 [Bt P, .int P.g, .ilist P.ts] σ Q E := by
  refine aT (fi := Az) rfl rfl ?_
  simp only [Az, List.map_cons, List.map_nil, Nat.reduceSub, List.replicate_succ, List.replicate_zero, List.cons_append, List.nil_append, w38, ag, aH, ug, an, aP, ak, br, cr, e_c, dz, ap, kq, xZ, am, uN, bw, mZ, aj, rP, mJ, dO, mi]
  intro o ho e he
  rw [FC]
  intro t ht l hl
  obtain ⟨eo, he0⟩ := nw he
  obtain ⟨te, ht1⟩ := nw ht
  obtain ⟨to, ht0⟩ := nw ht1
  obtain ⟨lt, hl2⟩ := nw hl
  obtain ⟨le, hl1⟩ := nw hl2
  obtain ⟨lo, hl0⟩ := nw hl1
  rw [rE (by rw [ai _ _ (Ne.symm lt)]; exact aq _ _ _) (h' := ?hh)]
  case hh => exact Nat.le_of_ble_eq_true rfl
  rw [wG]
  simp only [aj, ag, rP, dz, ap, kq, mJ, dO, mi, e_c]
  intro a ha
  obtain ⟨at', ha4⟩ := nw ha
  obtain ⟨al, ha3⟩ := nw ha4
  obtain ⟨_, ha2⟩ := nw ha3
  obtain ⟨ae, ha1⟩ := nw ha2
  obtain ⟨ao, ha0⟩ := nw ha1
  rw [rE (by rw [ai _ _ (Ne.symm at')]; exact aq _ _ _) (h' := ?hh)]
  case hh => exact Nat.le_of_ble_eq_true rfl
  rw [wh]
  simp only [aj, ag, bA, dO, aN, aF, aO]
  refine h ⟨t, o, e, l, a⟩ _ ⟨Ne.symm lo, Ne.symm ao, Ne.symm al⟩ ⟨aq _ _ _, ?_, ?_, ?_, ?_⟩ ?_ ?_
  · rw [ai _ _ (Ne.symm to), ai _ _ (Ne.symm ao), ai _ _ (Ne.symm to), ai _ _ (Ne.symm lo), ai _ _ (Ne.symm to), ai _ _ (Ne.symm eo)]; exact aq _ _ _
  · rw [ai _ _ (Ne.symm te), ai _ _ (Ne.symm ae), ai _ _ (Ne.symm te), ai _ _ (Ne.symm le), ai _ _ (Ne.symm te)]; exact aq _ _ _
  · rw [ai _ _ lt, ai _ _ (Ne.symm al), ai _ _ lt]; exact aq _ _ _
  · rw [ai _ _ at']; exact aq _ _ _
  · intro c hc
    have c1 : c ≠ o := fun q => hc (q ▸ ho)
    have c2 : c ≠ e := fun q => hc (q ▸ he0)
    have c3 : c ≠ t := fun q => hc (q ▸ ht0)
    have c4 : c ≠ l := fun q => hc (q ▸ hl0)
    have c5 : c ≠ a := fun q => hc (q ▸ ha0)
    simp only [ai _ _ c1, ai _ _ c2, ai _ _ c3, ai _ _ c4, ai _ _ c5]
  · intro c hc
    unfold LA.all at hc
    simp only [List.mem_cons, List.not_mem_nil, or_false] at hc
    rcases hc with rfl | rfl | rfl | rfl | rfl <;> assumption
noncomputable abbrev refd (w : Str) : AV := .tup [.str (Str.ofString "refused"), .str w]
noncomputable abbrev told (v : AV) : AV := .tup [.str (Str.ofString "told"), v]
theorem last_le {w m b t k : Int} : k ≤ dw w m b t ↔ k ≤ t ∧ k < b + w ∧ k < m := by
  unfold dw
  split <;> split <;> omega
theorem lG {i lo hi : Int} (h : amongB (.int i) lo hi = true) : lo ≤ i ∧ i ≤ hi := by
  have h' : (decide (lo ≤ i) && decide (i ≤ hi)) = true := h
  rw [Bool.and_eq_true] at h'
  exact ⟨of_decide_eq_true h'.1, of_decide_eq_true h'.2⟩
theorem sn1 {w m b t k : Int} (h : k < b) : amongB (.int k) b (dw w m b t) = false := xM fun q => by have := q.1; omega
theorem sn2 {w m b t k : Int} (h : k > t ∨ k ≥ b + w ∨ k ≥ m) : amongB (.int k) b (dw w m b t) = false := xM fun q => by have := last_le.mp q.2; omega
theorem sn3 {w m b t k : Int} (h1 : ¬ k < b) (h2 : ¬ k > t) (h3 : ¬ k ≥ b + w) (h4 : ¬ k ≥ m) : amongB (.int k) b (dw w m b t) = true := fM ⟨by omega, last_le.mpr ⟨by omega, by omega, by omega⟩⟩
theorem sn4 {k t : Int} (h : ¬ k > t) : (if k + 1 > t then k + 1 else t) = (if k = t then k + 1 else t) := by
  by_cases c : k = t
  · rw [if_pos c, if_pos (by omega)]
  · rw [if_neg c, if_neg (by omega)]
theorem ti {L : List AV} {v : AV} : (((L ++ [v]).length : Nat) : Int) - 1 = L.length := by rw [List.length_append]; show ((L.length + 1 : Nat) : Int) - 1 = _; omega
theorem yq (X : LD B) (L : Lm B P M σ) {k : Int} (hg : P.g ≠ 0) (hF : M.F.length ≤ 1000) (no : amongB (.int k) M.base (dw P.w P.ts.length M.base M.top) = false → Q (refd (Str.ofString "now")) σ)
    (yes : amongB (.int k) M.base (dw P.w P.ts.length M.base M.top) = true → 0 ≤ k ∧ ∃ x, P.ts[k.toNat]? = some x ∧ ∀ σ', Lm B P (M.send P k x) σ' → (∀ c, c ∉ B.all → σ' c = σ c) → Q (told (.int M.F.length)) σ') : wpF prg (d + 1) 39 [.obj B.t, .int k] σ Q E := by
  refine aT (fi := AA) rfl rfl ?_
  simp only [AA, List.map_cons, List.map_nil, Nat.reduceSub, List.replicate_zero, List.cons_append, List.nil_append, w39, ag, bh, fb, aQ, bd, br, aL, az, aX, aP, aC, e_c, aD, aA L.t er, aI, wp, bH, au, aG, bJ, fc]
  by_cases h1 : k < M.base
  · simp only [decide_eq_true h1, cP, bU, au, aG, bv, ag, bA, dh, an, e_c, ak, ap, am, cn, aN, aF, aO]
    exact no (sn1 h1)
  by_cases h2 : k > M.top
  · simp only [decide_eq_false h1, dr, bE, aQ, bd, br, aL, az, aX, aP, aC, e_c, aD, aA L.t pR, aI, pH, decide_eq_true h2, bV, cJ, au, aG, bJ, fc, cP, bU, bv, ag, bA, dh, an, ak, ap, am, cn, aN, aF, aO]
    exact no (sn2 (.inl h2))
  by_cases h3 : k ≥ M.base + P.w
  · simp only [decide_eq_false h1, dr, bE, aQ, bd, br, aL, az, aX, aP, aC, e_c, aD, aA L.t pR, aI, pH, decide_eq_false h2, bI, au, aG, bJ, fc, aA L.t er, aA L.t da, bD, Int.le_refl, Int.toNat_zero, List.getElem?_cons_zero, aM, cf, BE, decide_eq_true h3, bV, cJ, cP, bU, bv, ag, bA, dh, an, ak, ap, am, cn, aN, aF, aO, true_and]
    exact no (sn2 (.inr (.inl h3)))
  by_cases h4 : k ≥ (P.ts.length : Int)
  · simp only [decide_eq_false h1, dr, bE, aQ, bd, br, aL, az, aX, aP, aC, e_c, aD, aA L.t pR, aI, pH, decide_eq_false h2, bI, au, aG, bJ, fc, aA L.t er, aA L.t da, bD, Int.le_refl, Int.toNat_zero, List.getElem?_cons_zero, aM, cf, BE, decide_eq_false h3, cH, an, aA L.t rn, ak, ap, am, cz, yp, decide_eq_true h4, bV, cJ, cP, bU, bv, ag, bA, dh, cn, aN, aF, aO, true_and]
    exact no (sn2 (.inr (.inr h4)))
  obtain ⟨k0, x, hx, yes⟩ := yes (sn3 h1 h2 h3 h4)
  have L1 := L.span (b := M.base) (t := if k + 1 > M.top then k + 1 else M.top)
  simp only [decide_eq_false h1, dr, bE, aQ, bd, br, aL, az, aX, aP, aC, e_c, aD, aA L.t pR, aI, pH, decide_eq_false h2, bI, au, aG, bJ, fc, aA L.t er, aA L.t da, bD, Int.le_refl, Int.toNat_zero, List.getElem?_cons_zero, aM, cf, BE, decide_eq_false h3, cH, an, aA L.t rn, ak, ap, am, cz, yp, decide_eq_false h4, dC, bg, bc, aj, ag, rP, jI, mJ, mi, rE L.t (show 9 ≤ 1000000 by decide), Dx, bX, lM, true_and]
  rw [sn4 h2] at L1 ⊢
  generalize hs : upd σ B.t (.dictS _) = σ1 at L1 ⊢
  have k1 : ∀ c, c ≠ B.t → σ1 c = σ c := fun c hc => by rw [← hs]; exact ai _ _ hc
  have L2 := L1.pF X (xs := M.F ++ [.tup [.int (k.fmod P.g), x]])
  simp only [aA L1.t dR, fH (rc := rcL) (v := .obj B.l) (σ := σ1) ⟨_, _, rfl, L1.l⟩, an, dh, aX, br, aC, aP, e_c, aD, aA L1.t kF, bR, ne_eq, hg, not_false_eq_true, ak, aA L1.t rn, i_l, k0, hx, aM, ap, am, cn, eE, dy L1.l (show M.F.length ≤ 1000000 by omega), cA, aj, ag, bA, cH, true_and]
  simp only [aA L2.t dR, ak, ap, am, cz, dE L2.l, aC, e_c, aD, dL, ti, cn, aN, aF, aO]
  refine yes _ L2 fun c hc => ?_
  rw [ai _ _ (iR hc DM), k1 c (iR hc BP)]
noncomputable def thB (L : List AV) (n b : Int) : Bool := decide (n < L.length) && decide ((L.length : Int) - 1 - n ≤ b)
theorem io {a : Nat} {L : List AV} {n b : Int} (ha : σ a = some (.list L)) (h : Q (.bool (thB L n b)) σ) : wpF prg (d + 1) 40 [.obj a, .int n, .int b] σ Q E := by
  refine aT (fi := zh) rfl rfl ?_
  simp only [zh, List.map_cons, List.map_nil, Nat.reduceSub, List.replicate_zero, List.cons_append, List.nil_append, w40, ag, bA, fb, aQ, bd, br, aL, az, cH, an, aP, ak, ap, am, cz, dE ha, aI, wp, bH, au, aG, bJ, gj]
  unfold thB at h
  by_cases h1 : n < L.length
  · rw [decide_eq_true h1] at h ⊢
    simp only [bE, aQ, bd, aX, cH, an, aP, ak, ap, am, cz, dE ha, aC, e_c, aD, dL, br, aL, az, cr, aI, pJ, bH, au, aG, bJ, gj, jQ, aN, aF, aO]
    exact h
  · rw [decide_eq_false h1] at h ⊢
    simp only [bU, au, aN, aF, aO]
    exact h
theorem Bp {L : List AV} {n b : Int} (n0 : 0 ≤ n) (h : amongB (.int n) (eH b L) (L.length - 1) = false) : thB L n b = false := by
  cases e : thB L n b with
  | false => rfl
  | true =>
    unfold thB at e
    rw [Bool.and_eq_true] at e
    have e1 := of_decide_eq_true e.1
    have e2 := of_decide_eq_true e.2
    have q : amongB (.int n) (eH b L) (L.length - 1) = true := fM ⟨by unfold eH; split <;> omega, by omega⟩
    rw [q] at h; cases h
theorem wU {L : List AV} {n b : Int} (h : eH b L ≤ n ∧ n < L.length) : thB L n b = true := by
  have h1 := h.1
  unfold eH at h1
  unfold thB
  rw [decide_eq_true h.2, decide_eq_true (by split at h1 <;> omega)]; rfl
theorem qc : ∀ (n : Nat) (p : Int) (D : List (Int × AV)) (G : List AV), p = G.length → (drain n p D G).1 = (drain n p D G).2.2.length := by
  intro n
  induction n with
  | zero => intro p D G h; exact h
  | succ n ih =>
    intro p D G h
    cases hv : aW D p with
    | none => rw [gX hv]; exact h
    | some v => rw [gZ hv]; exact ih _ _ _ (by rw [h, List.length_append]; rfl)
theorem vI : ∀ (n : Nat) (p : Int) (D : List (Int × AV)) (G : List AV), (drain n p D G).2.2.length + (drain n p D G).2.1.length ≤ G.length + D.length := by
  intro n
  induction n with
  | zero => intro p D G; exact Nat.le_refl _
  | succ n ih =>
    intro p D G
    cases hv : aW D p with
    | none => rw [gX hv]; exact Nat.le_refl _
    | some v =>
      rw [gZ hv]
      have := ih (p + 1) (eY p D) (G ++ [v])
      have h2 := qH hv
      rw [List.length_append] at this
      have h3 : [v].length = 1 := rfl
      omega
noncomputable def xu : WE := (bG (vON dG (aa (vO2 aJ (ac 0) (vC (.str (Str.ofString "out")))) ar)) (aS wC (vO2 aJ (ac 0) (vC (.str (Str.ofString "kept")))) bF))
noncomputable def Bm : WS := (ad (cM (vBm rcL cb (vO2 aJ (ac 0) (vC (.str (Str.ofString "out")))) (aa (vBm rcD sR (vO2 aJ (ac 0) (vC (.str (Str.ofString "kept")))) (aa (vON dG (aa (vO2 aJ (ac 0) (vC (.str (Str.ofString "out")))) ar)) ar)) ar))) ay)
theorem Bv {ρ : Loc} (X : LD B) : ∀ (n : Nat) (M : Mo) (σ : St), M.early.length ≤ n → M.own.length + M.early.length ≤ 1000 → M.place = M.own.length → Lm B P M σ →
    (∀ σ', Lm B P { M with place := (drain n M.place M.early M.own).1, early := (drain n M.place M.early M.own).2.1, own := (drain n M.place M.early M.own).2.2 } σ' → (∀ c, c ≠ B.o → c ≠ B.e → σ' c = σ c) → QQ .next (some (.obj B.t) :: ρ) σ') →
    whN xu Bm EE (n + 1) (some (.obj B.t) :: ρ) σ QQ := by
  intro n
  induction n with
  | zero =>
    intro M σ hl hs hp L h
    have hD : M.early = [] := List.length_eq_zero_iff.mp (Nat.le_zero.mp hl)
    rw [pZ]
    unfold xu
    simp only [bd, cH, an, aX, aP, aC, e_c, aD, aA L.t sW, ak, ap, am, cz, dE L.o, aL, az, aA L.t oB, aI, vh L.e, bH, au, aG]
    rw [hD, show jT ([] : List (Int × AV)) _ = false from rfl, pg]
    exact h σ L fun _ _ _ => rfl
  | succ n ih =>
    intro M σ hl hs hp L h
    rw [pZ]
    unfold xu
    simp only [bd, cH, an, aX, aP, aC, e_c, aD, aA L.t sW, ak, ap, am, cz, dE L.o, aL, az, aA L.t oB, aI, vh L.e, bH, au, aG]
    rw [← hp]
    cases hv : aW M.early M.place with
    | none =>
      rw [gX hv] at h
      rw [sb hv, pg]
      exact h σ L fun _ _ _ => rfl
    | some v =>
      rw [gZ hv] at h
      have hd := qH hv
      have hv' : aW M.early (M.own.length : Int) = some v := by rw [← hp]; exact hv
      rw [sK hv, tZ]
      have oe : B.o ≠ B.e := aU L.o L.e (by intro h; cases h)
      have o1 : upd σ B.e (.dictI (eY (M.own.length : Int) M.early)) B.o = some (.list M.own) := (ai _ _ oe).trans L.o
      have k1 : ∀ c, c ≠ B.o → c ≠ B.e → upd (upd σ B.e (.dictI (eY (M.own.length : Int) M.early))) B.o (.list (M.own ++ [v])) c = σ c := fun c c1 c2 => by rw [ai _ _ c1, ai _ _ c2]
      have L1 := L.tk X (p := M.place + 1) (aq _ B.o (.list (M.own ++ [v]))) ((ai _ _ (Ne.symm oe)).trans (aq _ B.e _)) k1
      rw [show Bm = (ad (cM (vBm rcL cb (vO2 aJ (ac 0) (vC (.str (Str.ofString "out")))) (aa (vBm rcD sR (vO2 aJ (ac 0) (vC (.str (Str.ofString "kept")))) (aa (vON dG (aa (vO2 aJ (ac 0) (vC (.str (Str.ofString "out")))) ar)) ar)) ar))) ay) from rfl]
      simp only [ag, bX, lM, aX, aP, aC, e_c, aD, aA L.t sW, fH (rc := rcL) (v := .obj B.o) (σ := σ) ⟨_, _, rfl, L.o⟩, an, aA L.t oB, fH (rc := rcD) (v := .obj B.e) (σ := σ) ⟨_, _, rfl, L.e⟩, cH, ak, ap, am, cz, dE L.o, eE, Bl L.e hv' (by omega), dy o1 (by omega), cA, aj, bc, oj]
      have e0 : eY (M.own.length : Int) M.early = eY M.place M.early := by rw [hp]
      refine ih { M with place := M.place + 1, own := M.own ++ [v], early := eY M.place M.early } _ (by show (eY M.place M.early).length ≤ n; omega) (by show (M.own ++ [v]).length + (eY M.place M.early).length ≤ 1000; rw [List.length_append]; simp only [List.length_cons, List.length_nil]; omega) (by show M.place + 1 = ((M.own ++ [v]).length : Nat); rw [List.length_append, hp]; rfl) (by rw [e0] at L1 ⊢; exact L1) fun σ' L' k' => h σ' L' fun c c1 c2 => (k' c c1 c2).trans (k1 c c1 c2)
end Ap.L13
end
section
namespace Ap.L13
open PySem
variable {d : Nat} {σ σ' : St} {Q : PQ} {E : PE} {QQ : QS} {EE : ES}
variable {B : LA} {P : Pm} {M : Mo}
theorem Lm.pE (L : Lm B P M σ) {D : List (Int × AV)} : Lm B P { M with early := D } (upd σ B.e (.dictI D)) where
  t := (ai _ _ (aU L.t L.e (by intro h; cases h))).trans L.t
  o := (ai _ _ (aU L.o L.e (by intro h; cases h))).trans L.o
  e := aq _ _ _
  l := (ai _ _ (aU L.l L.e (by intro h; cases h))).trans L.l
  a := (ai _ _ (aU L.a L.e (by intro h; cases h))).trans L.a
theorem lu {p g n i : Int} (hg : 0 < g) (i0 : 0 ≤ i) (i1 : i < g) : (p + i - n).fmod g = 0 ↔ i = (n - p).fmod g := by
  rw [Int.fmod_eq_emod_of_nonneg _ (by omega), Int.fmod_eq_emod_of_nonneg _ (by omega)]
  constructor
  · intro h
    have e := Int.emod_add_mul_ediv (p + i - n) g
    rw [h] at e
    have e2 : n - p = i + g * (-((p + i - n) / g)) := by rw [Int.mul_neg]; omega
    rw [e2, Int.add_mul_emod_self_left, Int.emod_eq_of_lt i0 i1]
  · intro h
    have e := Int.emod_add_mul_ediv (n - p) g
    rw [← h] at e
    have e2 : p + i - n = 0 + g * (-((n - p) / g)) := by rw [Int.mul_neg]; omega
    rw [e2, Int.add_mul_emod_self_left, Int.zero_emod]
noncomputable def td (g n p : Int) (x : AV) (D : List (Int × AV)) : List (Int × AV) := if jT D (p + (n - p).fmod g) then D else co (p + (n - p).fmod g) x D
theorem xQ (L : Lm B P M σ) {n : Int} (n0 : 0 ≤ n) (hn : amongB (.int n) (eH P.m M.F) (M.F.length - 1) = false) (h : Q (refd (Str.ofString "letter")) σ) : wpF prg (d + 2) 41 [.obj B.t, .int n] σ Q E := by
  refine aT (fi := wx) rfl rfl ?_
  simp only [wx, List.map_cons, List.map_nil, Nat.reduceSub, List.replicate_succ, List.replicate_zero, List.cons_append, List.nil_append, w41, ag, bh, bQ, aR, an, aX, aP, aC, e_c, aD, aA L.t dR, ak, br, aA L.t da, bD, Int.reduceLE, Int.reduceToNat, List.getElem?_cons_succ, List.getElem?_cons_zero, aM, ap, am, aE, true_and]
  refine io L.l ?_
  rw [Bp n0 hn]
  simp only [bN, cm, dr, aG, bv, ag, bA, dh, an, e_c, ak, ap, am, cn, aN, aF, aO]
  exact h
theorem pw1 {s i : Int} (c : i = s) : ¬ s < i := by omega
theorem pw2 {s : Int} {i : Nat} (c : (i : Int) = s) : s < ((i + 1 : Nat) : Int) := by omega
theorem pw3 {s : Int} {i : Nat} (c : ¬ (i : Int) = s) : s < (i : Int) ↔ s < ((i + 1 : Nat) : Int) := by omega
theorem pw4 {r : Int} (h0 : 1 ≤ r) (h1 : r ≤ 20) : r.natAbs < 1152921504606846976 ∧ r ≤ 1000000 := by omega
theorem pw5 {r s : Int} (h0 : 1 ≤ r) : s < ((0 + (r - 0).toNat : Nat) : Int) ↔ s < r := by omega
theorem vK (X : LD B) (L : Lm B P M σ) {n b : Int} {x : AV} (hp : M.place = M.own.length) (hg : 0 < P.g) (hr : 1 ≤ P.r ∧ P.r ≤ 20) (hs : M.own.length + M.early.length ≤ 900) (hG : M.G.length ≤ 1000) (n0 : 0 ≤ n) (hn : eH P.m M.F ≤ n ∧ n < M.F.length) (hx : M.F[n.toNat]? = some (.tup [.int b, x]))
    (h : ∀ σ', Lm B P (M.hand P b x) σ' → (∀ c, c ∉ B.all → σ' c = σ c) → Q (told (.int M.G.length)) σ') : wpF prg (d + 2) 41 [.obj B.t, .int n] σ Q E := by
  refine aT (fi := wx) rfl rfl ?_
  simp only [wx, List.map_cons, List.map_nil, Nat.reduceSub, List.replicate_succ, List.replicate_zero, List.cons_append, List.nil_append, w41, ag, bh, bQ, aR, an, aX, aP, aC, e_c, aD, aA L.t dR, ak, br, aA L.t da, bD, Int.reduceLE, Int.reduceToNat, List.getElem?_cons_succ, List.getElem?_cons_zero, aM, ap, am, aE, true_and]
  refine io L.l ?_
  rw [wU hn]
  have gn : P.g ≠ 0 := by omega
  simp only [bN, cm, cP, aG, bg, bc, aj, ag, qr, aX, aP, aC, e_c, aD, aA L.t dR, br, rY L.l, n0, hx, aM, fK (xs := [_, _]) (is := [_, _]) rfl, dj, lW, mZ, du, aH, cH, an, aA L.t sW, ak, ap, am, cz, dE L.o, bw, nD, qt, lO, aA L.t da, bD, Int.reduceLE, Int.toNat_one, List.getElem?_cons_succ, List.getElem?_cons_zero, rW, Nat.reducePow, nB, true_and]
  refine ⟨pw4 hr.1 hr.2, ?_⟩
  rw [← hp]
  have s0 := bL (a := b - M.place) hg
  have s1 := bW (a := b - M.place) hg
  refine nF (fun i ρ σ' => ∃ v, ρ = [some (.obj B.t), some (.int n), some (.int b), some x, some (.int M.place), v] ∧ Lm B P { M with early := if (b - M.place).fmod P.g < i then td P.g b M.place x M.early else M.early } σ' ∧ ∀ c, c ≠ B.e → σ' c = σ c) _ 0 ?_ ?_ _ _ ⟨_, rfl, by rw [if_neg (by omega)]; exact L, fun _ _ => rfl⟩
  · rintro i y hy ρ σ₁ R ⟨v, rfl, L1, k1⟩ hR
    refine ⟨trivial, ?_⟩
    obtain ⟨i1, rfl⟩ := wb hy
    rw [Nat.zero_add] at L1 hR
    have i0 := Int.natCast_nonneg i
    simp only [Int.zero_add, iq, oq, ag, bh, fb, aQ, bd, lD, aL, az, aX, aP, aC, e_c, aD, aA L1.t kF, aI, wp, bH, au, aG, bJ, gj]
    by_cases c : (i : Int) = (b - M.place).fmod P.g
    · rw [if_neg (pw1 c)] at L1
      have c1 : (i : Int) < P.g := by rw [c]; exact s1
      have c0 : ((M.place + (i : Int) - b).fmod P.g == 0) = true := by rw [(lu hg i0 c1).mpr c]; rfl
      simp only [decide_eq_true c1, bE, aQ, bd, aX, gq, aC, lD, aD, cf, cr, dL, aP, e_c, aA L1.t kF, bR, ne_eq, gn, not_false_eq_true, aL, az, aI, iO, c0, bV, cJ, au, aG, bJ, gj, aA L1.t oB, yE L1.e, bH, jQ, true_and]
      cases c2 : jT M.early (M.place + (i : Int)) with
      | true =>
        simp only [cP, bg, bc, aj]
        refine hR _ _ ⟨_, rfl, ?_, k1⟩
        rw [if_pos (pw2 c)]
        unfold td
        rw [← c, if_pos c2]
        exact L1
      | false =>
        simp only [dr, bv, ag, yk, dO, mJ, aX, aP, aC, e_c, aD, aA L1.t oB, mi, gq, lD, cf, wR L1.e (show M.early.length ≤ 1000000 by omega), aj, bc]
        refine hR _ _ ⟨_, rfl, ?_, fun b hb => by rw [ai _ _ hb]; exact k1 b hb⟩
        rw [if_pos (pw2 c)]
        unfold td
        rw [← c, if_neg (by rw [c2]; exact Bool.false_ne_true)]
        exact L1.pE
    · have fin : ∃ v, [some (.obj B.t), some (.int n), some (.int b), some x, some (.int M.place), some (.int (i : Int))] = [some (.obj B.t), some (.int n), some (.int b), some x, some (.int M.place), v] ∧ Lm B P { M with early := if (b - M.place).fmod P.g < ((i + 1 : Nat) : Int) then td P.g b M.place x M.early else M.early } σ₁ ∧ ∀ c, c ≠ B.e → σ₁ c = σ c := by
        refine ⟨_, rfl, ?_, k1⟩
        have e : (if (b - M.place).fmod P.g < ((i + 1 : Nat) : Int) then td P.g b M.place x M.early else M.early) = (if (b - M.place).fmod P.g < (i : Int) then td P.g b M.place x M.early else M.early) := by
          by_cases c3 : (b - M.place).fmod P.g < (i : Int)
          · rw [if_pos c3, if_pos ((pw3 c).mp c3)]
          · rw [if_neg c3, if_neg (fun q => c3 ((pw3 c).mpr q))]
        rw [e]; exact L1
      by_cases c1 : (i : Int) < P.g
      · have c0 : ((M.place + (i : Int) - b).fmod P.g == 0) = false := beq_eq_false_iff_ne.mpr fun q => c ((lu hg i0 c1).mp q)
        simp only [decide_eq_true c1, bE, aQ, bd, aX, gq, aC, lD, aD, cf, cr, dL, aP, e_c, aA L1.t kF, bR, ne_eq, gn, not_false_eq_true, aL, az, aI, iO, c0, bI, au, aG, bJ, gj, bU, bg, bc, aj, true_and]
        exact hR _ _ fin
      · simp only [decide_eq_false c1, bU, au, aG, bg, bc, aj]
        exact hR _ _ fin
  · rintro ρ σ₁ ⟨v, rfl, L1, k1⟩
    refine ⟨trivial, ?_⟩
    have e2 : (if (b - M.place).fmod P.g < ((0 + (gp 0 P.r).length : Nat) : Int) then td P.g b M.place x M.early else M.early) = dv P.r P.g b M.place x M.early := by
      unfold dv td
      rw [lh]
      by_cases c3 : (b - M.place).fmod P.g < P.r
      · rw [if_pos c3, if_pos ((pw5 hr.1).mpr c3)]
      · rw [if_neg c3, if_neg (fun q => c3 ((pw5 hr.1).mp q))]
    rw [e2] at L1
    have pl := lV P.r P.g b M.place x M.early
    simp only [aj, ag, oN]
    refine ⟨_, Bv X _ { M with early := dv P.r P.g b M.place x M.early } σ₁ (Nat.le_refl _) (by show M.own.length + (dv P.r P.g b M.place x M.early).length ≤ 1000; omega) hp L1 fun σ2 L2 k2 => ?_⟩
    have dl := qc (dv P.r P.g b M.place x M.early).length M.place (dv P.r P.g b M.place x M.early) M.own hp
    have L3 := L2.pG X (xs := M.G ++ [.int ((drain (dv P.r P.g b M.place x M.early).length M.place (dv P.r P.g b M.place x M.early) M.own).1.fmod P.g)])
    simp only [aj, ag, bX, lM, aX, aP, aC, e_c, aD, aA L2.t dH, fH (rc := rcL) (v := .obj B.a) (σ := σ2) ⟨_, _, rfl, L2.a⟩, an, cH, aA L2.t sW, ak, ap, am, cz, dE L2.o, ← dl, aA L2.t kF, bR, ne_eq, gn, not_false_eq_true, eE, dy L2.a (show M.G.length ≤ 1000000 by omega), cA, bA, dh, true_and]
    simp only [aA L3.t dH, ak, ap, am, cz, dE L3.a, aC, e_c, aD, dL, ti, cn, aN, aF, aO]
    refine h _ L3 fun c hc => ?_
    rw [ai _ _ (iR hc Dl), k2 c (iR hc Dn) (iR hc Cn), k1 c (iR hc Cn)]
noncomputable def vD : WE := (bG (vO2 bK (vO2 dZ (vO2 bZ (vO2 aJ (ac 0) (vC (.str (Str.ofString "base")))) (ac 2)) (vO2 pU (vO2 aJ (ac 0) (vC (.str (Str.ofString "answers")))) (ac 1))) (vO2 aJ (ac 0) (vC (.str (Str.ofString "ring"))))) (aS cNe (vC (.int 0)) bF))
noncomputable def yc : WS := (ad (aw 2 (vO2 bZ (ac 2) (vC (.int 1)))) ay)
theorem wy (L : Lm B P M σ) {n a : Int} {s : Nat} (hg : 0 < P.g) (n0 : 0 ≤ n) (hx : M.G[n.toNat]? = some (.int a)) (hs : (s : Int) = (a - M.base).fmod P.g) (h : QQ .next [some (.obj B.t), some (.int n), some (.int s)] σ) : ∀ (k i : Nat), i + k = s →
    whN vD yc EE (k + 1) [some (.obj B.t), some (.int n), some (.int i)] σ QQ := by
  have gn : P.g ≠ 0 := by omega
  have s1 := bW (a := a - M.base) hg
  intro k
  induction k with
  | zero =>
    intro i hi
    have e : i = s := hi
    subst e
    have c0 : ((M.base + (i : Int) - a).fmod P.g == 0) = true := by rw [(lu hg (Int.natCast_nonneg i) (by omega)).mpr hs]; rfl
    rw [pZ]
    unfold vD
    simp only [bd, aX, aP, aC, e_c, aD, aA L.t er, cr, cf, aA L.t dH, br, rY L.a, n0, hx, aM, dL, aA L.t kF, bR, ne_eq, gn, not_false_eq_true, aL, az, aI, qp, c0, cP, bI, au, aG, pg, true_and]
    exact h
  | succ k ih =>
    intro i hi
    have c0 : ((M.base + (i : Int) - a).fmod P.g == 0) = false := beq_eq_false_iff_ne.mpr fun q => by have := (lu hg (Int.natCast_nonneg i) (by omega)).mp q; omega
    have := ih (i + 1) (by omega)
    rw [pZ]
    unfold vD
    simp only [bd, aX, aP, aC, e_c, aD, aA L.t er, cr, cf, aA L.t dH, br, rY L.a, n0, hx, aM, dL, aA L.t kF, bR, ne_eq, gn, not_false_eq_true, aL, az, aI, qp, c0, dr, bV, cJ, au, aG, tZ, true_and]
    unfold vD yc at this
    unfold yc
    simp only [ag, aH, aX, cr, aC, e_c, aD, cf, bw, lW, aj, bc, oj]
    exact this
theorem yj (L : Lm B P M σ) {n : Int} (n0 : 0 ≤ n) (hn : amongB (.int n) (eH P.b M.G) (M.G.length - 1) = false) (h : Q (refd (Str.ofString "letter")) σ) : wpF prg (d + 2) 42 [.obj B.t, .int n] σ Q E := by
  refine aT (fi := wf) rfl rfl ?_
  simp only [wf, List.map_cons, List.map_nil, Nat.reduceSub, List.replicate_succ, List.replicate_zero, List.cons_append, List.nil_append, w42, ag, bh, bQ, aR, an, aX, aP, aC, e_c, aD, aA L.t dH, ak, br, aA L.t da, bD, Int.reduceLE, Int.reduceToNat, List.getElem?_cons_succ, List.getElem?_cons_zero, aM, ap, am, aE, true_and]
  refine io L.a ?_
  rw [Bp n0 hn]
  simp only [bN, cm, dr, aG, bv, ag, bA, dh, an, e_c, ak, ap, am, cn, aN, aF, aO]
  exact h
theorem vW (L : Lm B P M σ) {n a : Int} (hg : 0 < P.g) (n0 : 0 ≤ n) (hn : eH P.b M.G ≤ n ∧ n < M.G.length) (hx : M.G[n.toNat]? = some (.int a))
    (h : ∀ σ', Lm B P (M.tell P a) σ' → (∀ c, c ∉ B.all → σ' c = σ c) → Q (told (.int (M.tell P a).base)) σ') : wpF prg (d + 2) 42 [.obj B.t, .int n] σ Q E := by
  refine aT (fi := wf) rfl rfl ?_
  simp only [wf, List.map_cons, List.map_nil, Nat.reduceSub, List.replicate_succ, List.replicate_zero, List.cons_append, List.nil_append, w42, ag, bh, bQ, aR, an, aX, aP, aC, e_c, aD, aA L.t dH, ak, br, aA L.t da, bD, Int.reduceLE, Int.reduceToNat, List.getElem?_cons_succ, List.getElem?_cons_zero, aM, ap, am, aE, true_and]
  refine io L.a ?_
  rw [wU hn]
  obtain ⟨s, hs⟩ : ∃ s : Nat, (s : Int) = (a - M.base).fmod P.g := ⟨_, Int.toNat_of_nonneg (bL hg)⟩
  simp only [bN, cm, cP, aG, bg, bc, aj, ag, aH, e_c, bw, lW, oN]
  refine ⟨_, wy (s := s) (i := 0) L hg n0 hx hs ?_ s (Nat.zero_add s)⟩
  unfold Mo.tell hrd at h
  rw [← hs] at h
  simp only [aj, ag, bh, bd, aX, aP, aC, e_c, aD, aA L.t er, cr, cf, aL, az, aA L.t pR, aI, pJ, bH, au, aG]
  by_cases c : M.base + (s : Int) ≤ M.top
  · rw [if_pos c] at h
    have L1 := L.span (b := M.base + (s : Int)) (t := M.top)
    simp only [decide_eq_true c, bv, ag, rP, aX, aP, aC, e_c, aD, aA L.t er, cr, cf, mJ, mi, rE L.t (show 9 ≤ 1000000 by decide), Ch, aj, bc, bA, dh, an, ak, aA L1.t er, ap, am, cn, aN, aF, aO]
    exact h _ L1 fun c hc => ai _ _ (iR hc BP)
  · rw [if_neg c] at h
    simp only [decide_eq_false c, bg, bc, aj, ag, bA, dh, an, e_c, ak, aX, aP, aC, aD, aA L.t er, ap, am, cn, aN, aF, aO]
    exact h _ L fun _ _ => rfl
end Ap.L13
end
section
namespace Ap.L13
open PySem
variable {d : Nat} {σ σ' : St} {Q : PQ} {E : PE} {QQ : QS} {EE : ES}
variable {B : LA} {A : RA} {P : Pm} {M : Mo}
noncomputable abbrev say (w : Str) (k : Int) : Str := w ++ Str.ofString " " ++ fY k
inductive Stp (P : Pm) (M : Mo) : Str → Int → AV → Str → Mo → Prop
  | sendN {k : Int} : amongB (.int k) M.base (dw P.w P.ts.length M.base M.top) = false → Stp P M (Str.ofString "send") k (refd (Str.ofString "now")) (Str.ofString "not now") M
  | sendY {k : Int} {x : AV} : amongB (.int k) M.base (dw P.w P.ts.length M.base M.top) = true → P.ts[k.toNat]? = some x → Stp P M (Str.ofString "send") k (told (.int M.F.length)) (say (Str.ofString "letter") M.F.length) (M.send P k x)
  | handN {n : Int} : amongB (.int n) (eH P.m M.F) (M.F.length - 1) = false → Stp P M (Str.ofString "hand") n (refd (Str.ofString "letter")) (Str.ofString "no letter") M
  | handY {n b : Int} {x : AV} : (eH P.m M.F ≤ n ∧ n < M.F.length) → M.F[n.toNat]? = some (.tup [.int b, x]) → Stp P M (Str.ofString "hand") n (told (.int M.G.length)) (say (Str.ofString "answer") M.G.length) (M.hand P b x)
  | tellN {n : Int} : amongB (.int n) (eH P.b M.G) (M.G.length - 1) = false → Stp P M (Str.ofString "tell") n (refd (Str.ofString "letter")) (Str.ofString "no letter") M
  | tellY {n a : Int} : (eH P.b M.G ≤ n ∧ n < M.G.length) → M.G[n.toNat]? = some (.int a) → Stp P M (Str.ofString "tell") n (told (.int (M.tell P a).base)) (say (Str.ofString "base") (M.tell P a).base) (M.tell P a)
structure Ok (P : Pm) (M : Mo) (c : Nat) : Prop where
  b0 : 0 ≤ M.base
  bt : M.base ≤ M.top
  tt : M.top ≤ P.ts.length
  pl : M.place = M.own.length
  oe : M.own.length + M.early.length ≤ c
  F : M.F.length ≤ c
  G : M.G.length ≤ c
  Fx : ∀ v ∈ M.F, ∃ b x, v = .tup [.int b, x]
  Gx : ∀ v ∈ M.G, ∃ a, v = .int a
structure PmOk (P : Pm) : Prop where
  b : Bnd P.w P.r P.m P.b
  g : 1 ≤ P.g ∧ P.g ≤ 200
  l : P.ts.length ≤ 100
  t : ∀ x ∈ P.ts, S40 x
theorem tO {g b t n : Int} (hg : 0 < g) (h : b ≤ t) : b ≤ hrd g b t n ∧ hrd g b t n ≤ t := by
  have := bL (a := n - b) hg
  unfold hrd
  split <;> omega
theorem uU {L : List AV} {v : AV} {c : Nat} (h : L.length ≤ c) : (L ++ [v]).length ≤ c + 1 := by rw [List.length_append]; exact Nat.add_le_add_right h 1
theorem Ok.more {c c' : Nat} (K : Ok P M c) (h : c ≤ c') : Ok P M c' := ⟨K.b0, K.bt, K.tt, K.pl, Nat.le_trans K.oe h, Nat.le_trans K.F h, Nat.le_trans K.G h, K.Fx, K.Gx⟩
theorem BI {k t m b w : Int} (h : b ≤ t) (h2 : t ≤ m) (hk : k < m) : b ≤ (if k = t then k + 1 else t) ∧ (if k = t then k + 1 else t) ≤ m := by
  split <;> omega
theorem Ok.step {w : Str} {n : Int} {r : AV} {a : Str} {M' : Mo} {c : Nat} (X : PmOk P) (K : Ok P M c) (S : Stp P M w n r a M') : Ok P M' (c + 1) := by
  have K1 := K.more (Nat.le_succ c)
  cases S with
  | sendN _ => exact K1
  | handN _ => exact K1
  | tellN _ => exact K1
  | sendY q hx =>
    have t := BI (k := n) (w := 0) K.bt K.tt (last_le.mp (lG q).2).2.2
    exact ⟨K.b0, t.1, t.2, K.pl, K1.oe, uU K.F, K1.G, fun v hv => (List.mem_append.mp hv).elim (K.Fx v) fun h => ⟨_, _, List.mem_singleton.mp h⟩, K.Gx⟩
  | @handY n b x q hx =>
    have dl := qc (dv P.r P.g b M.place x M.early).length M.place (dv P.r P.g b M.place x M.early) M.own K.pl
    have dt := vI (dv P.r P.g b M.place x M.early).length M.place (dv P.r P.g b M.place x M.early) M.own
    have pl := lV P.r P.g b M.place x M.early
    exact ⟨K.b0, K.bt, K.tt, dl, Nat.le_trans dt (Nat.le_trans (Nat.add_le_add_left pl _) (Nat.add_le_add_right K.oe 1)), K1.F, uU K.G, K.Fx, fun v hv => (List.mem_append.mp hv).elim (K.Gx v) fun h => ⟨_, List.mem_singleton.mp h⟩⟩
  | @tellY n a q hx =>
    have t := tO (n := a) (b := M.base) (t := M.top) X.g.1 K.bt
    exact ⟨Int.le_trans K.b0 t.1, t.2, K.tt, K.pl, K1.oe, K1.F, K1.G, K.Fx, K.Gx⟩
theorem yn (X : LD B) (Y : PmOk P) (L : Lm B P M σ) (K : Ok P M 100) {w : Str} {n : Int} (hw : w ∈ Ws) (n0 : 0 ≤ n) (h : ∀ r a M' σ', Stp P M w n r a M' → Lm B P M' σ' → (∀ c, c ∉ B.all → σ' c = σ c) → Q r σ') : wpF prg (d + 3) 43 [.obj B.t, .tup [.str w, .int n]] σ Q E := by
  refine aT (fi := wA) rfl rfl ?_
  have gn : P.g ≠ 0 := so0 Y.g.1
  unfold Ws at hw
  simp only [List.mem_cons, List.not_mem_nil, or_false] at hw
  rcases hw with rfl | rfl | rfl
  · simp only [wA, List.map_cons, List.map_nil, Nat.reduceSub, List.replicate_zero, List.cons_append, List.nil_append, w43, ag, bh, bd, aX, br, aC, e_c, aD, bD, Int.le_refl, Int.toNat_zero, List.getElem?_cons_zero, aM, aL, az, aI, eI, beq_self_eq_true, bV, cJ, au, aG, bv, bA, aR, an, aP, ak, Int.reduceLE, Int.toNat_one, List.getElem?_cons_succ, ap, am, aE, true_and]
    refine yq X L gn (Nat.le_trans K.F (by decide)) (fun q => ?_) fun q => ⟨n0, ?_⟩
    · simp only [aN, aF, aO]
      exact h _ _ _ _ (.sendN q) L fun _ _ => rfl
    · have hl := (last_le.mp (lG q).2).2.2
      have hl' : n.toNat < P.ts.length := by omega
      refine ⟨_, List.getElem?_eq_getElem hl', fun σ' L' k' => ?_⟩
      simp only [aN, aF, aO]
      exact h _ _ _ _ (.sendY q (List.getElem?_eq_getElem hl')) L' k'
  · simp only [wA, List.map_cons, List.map_nil, Nat.reduceSub, List.replicate_zero, List.cons_append, List.nil_append, w43, ag, bh, bd, aX, br, aC, e_c, aD, bD, Int.le_refl, Int.toNat_zero, List.getElem?_cons_zero, aM, aL, az, aI, eI, qHS, bI, au, aG, bg, bc, aj, beq_self_eq_true, bV, cJ, bv, bA, aR, an, aP, ak, Int.reduceLE, Int.toNat_one, List.getElem?_cons_succ, ap, am, aE, true_and]
    cases q : amongB (.int n) (eH P.m M.F) (M.F.length - 1) with
    | false =>
      refine xQ L n0 q ?_
      simp only [aN, aF, aO]
      exact h _ _ _ _ (.handN q) L fun _ _ => rfl
    | true =>
      have hl := lG q
      have hl1 : n < M.F.length := by omega
      have hl' : n.toNat < M.F.length := by omega
      obtain ⟨b, x, hx⟩ := K.Fx _ (List.getElem_mem hl')
      have hx' : M.F[n.toNat]? = some (.tup [.int b, x]) := by rw [List.getElem?_eq_getElem hl', hx]
      refine vK X L K.pl Y.g.1 ⟨Y.b.2.1.1, Int.le_trans Y.b.2.1.2 Y.b.1.2⟩ (Nat.le_trans K.oe (by decide)) (Nat.le_trans K.G (by decide)) n0 ⟨hl.1, hl1⟩ hx' fun σ' L' k' => ?_
      simp only [aN, aF, aO]
      exact h _ _ _ _ (.handY ⟨hl.1, hl1⟩ hx') L' k'
  · simp only [wA, List.map_cons, List.map_nil, Nat.reduceSub, List.replicate_zero, List.cons_append, List.nil_append, w43, ag, bh, bd, aX, br, aC, e_c, aD, bD, Int.le_refl, Int.toNat_zero, List.getElem?_cons_zero, aM, aL, az, aI, eI, qTS, bI, au, aG, bg, bc, aj, qTH, bA, aR, an, aP, ak, Int.reduceLE, Int.toNat_one, List.getElem?_cons_succ, ap, am, aE, true_and]
    cases q : amongB (.int n) (eH P.b M.G) (M.G.length - 1) with
    | false =>
      refine yj L n0 q ?_
      simp only [aN, aF, aO]
      exact h _ _ _ _ (.tellN q) L fun _ _ => rfl
    | true =>
      have hl := lG q
      have hl1 : n < M.G.length := by omega
      have hl' : n.toNat < M.G.length := by omega
      obtain ⟨a, hx⟩ := K.Gx _ (List.getElem_mem hl')
      have hx' : M.G[n.toNat]? = some (.int a) := by rw [List.getElem?_eq_getElem hl', hx]
      refine vW L Y.g.1 n0 ⟨hl.1, hl1⟩ hx' fun σ' L' k' => ?_
      simp only [aN, aF, aO]
      exact h _ _ _ _ (.tellY ⟨hl.1, hl1⟩ hx') L' k'
noncomputable def dB : WS := (ad (bY (bG (ac 2) (aS cEq (vC (.str (Str.ofString "refused"))) bF)) (ad (bP (vO2 aJ (pA [(Str.ofString "now"), (Str.ofString "letter")] (aa (vC (.str (Str.ofString "not now"))) (aa (vC (.str (Str.ofString "no letter"))) ar))) (ac 3))) ay) ay) (ad (bP (vO2 fN (vO2 aJ (pA [(Str.ofString "send"), (Str.ofString "hand"), (Str.ofString "tell")] (aa (vC (.str (Str.ofString "letter "))) (aa (vC (.str (Str.ofString "answer "))) (aa (vC (.str (Str.ofString "base "))) ar)))) (vO2 bO (ac 1) (vC (.int 0)))) (vON kf (aa (ac 3) ar)))) ay))
theorem Fp {a b : Str} {x y : AV} : List.zip [a, b] [x, y] = [(a, x), (b, y)] := rfl
theorem FN {a b c : Str} {x y z : AV} : List.zip [a, b, c] [x, y, z] = [(a, x), (b, y), (c, z)] := rfl
theorem qTR : (Str.ofString "told" == Str.ofString "refused") = false := by decide +kernel
theorem BB {o1 o2 : Option AV} {t a : Str} (hl : aW [(Str.ofString "now", AV.str (Str.ofString "not now")), (Str.ofString "letter", .str (Str.ofString "no letter"))] t = some (.str a)) (h : ∀ c x, σ c = Option.none → Q (.str a) (upd σ c x)) : dB [o1, o2, some (.str (Str.ofString "refused")), some (.str t)] σ (kFn Q) (eFn E) := by
  unfold dB
  simp only [ag, bh, bd, cr, aL, az, e_c, aI, eI, beq_self_eq_true, bV, cJ, au, aG, bv, bA, aX, ug, an, ak, ap, am, uN, aC, dO, aD]
  intro c hc
  rw [Fp]
  simp only [aA (aq _ _ _) hl, aN, aF, aO]
  exact h c _ hc
theorem BZ {o1 : Option AV} {w p : Str} {n k : Int} (hl : aW [(Str.ofString "send", AV.str (Str.ofString "letter ")), (Str.ofString "hand", .str (Str.ofString "answer ")), (Str.ofString "tell", .str (Str.ofString "base "))] w = some (.str p)) (hp : p.length ≤ 10) (k0 : 0 ≤ k) (k1 : k ≤ 1000) (h : ∀ c x, σ c = Option.none → Q (.str (p ++ fY k)) (upd σ c x)) : dB [o1, some (.tup [.str w, .int n]), some (.str (Str.ofString "told")), some (.int k)] σ (kFn Q) (eFn E) := by
  have := oi k0 (Int.le_trans k1 (by decide))
  unfold dB
  simp only [ag, bh, bd, cr, aL, az, e_c, aI, eI, qTR, bI, au, aG, bg, bc, aj, bA, aX, ug, an, ak, ap, am, uN, aC, br, aD, bD, Int.le_refl, Int.toNat_zero, List.getElem?_cons_zero, aM, true_and]
  intro c hc
  rw [FN]
  simp only [aA (aq _ _ _) hl, aC, cH, an, dO, ak, ap, am, cz, rS, aD, rL, aN, aF, aO]
  exact ⟨⟨k0, by omega⟩, by omega, h c _ hc⟩
theorem Fq : Str.ofString "letter" ++ Str.ofString " " = Str.ofString "letter " := by decide +kernel
theorem Ff : Str.ofString "answer" ++ Str.ofString " " = Str.ofString "answer " := by decide +kernel
theorem FO : Str.ofString "base" ++ Str.ofString " " = Str.ofString "base " := by decide +kernel
theorem jX {n : Nat} (h : n ≤ 100) : 0 ≤ (n : Int) ∧ (n : Int) ≤ 1000 := by omega
theorem BH (X : LD B) (Y : PmOk P) (L : Lm B P M σ) (K : Ok P M 100) {w : Str} {n : Int} (hw : w ∈ Ws) (n0 : 0 ≤ n) (h : ∀ r a M' σ', Stp P M w n r a M' → Lm B P M' σ' → (∀ c, c ∉ B.all → σ c ≠ Option.none → σ' c = σ c) → Q (.str a) σ') : wpF prg (d + 4) 45 [.obj B.t, .tup [.str w, .int n]] σ Q E := by
  refine aT (fi := fn45) rfl rfl ?_
  rw [show fn45.body (wpF prg (d + 3)) = ad (qD [2, 3] (aZ (wpF prg (d + 3)) 43 (aa (ac 0) (aa (ac 1) ar)))) dB from rfl]
  simp only [List.map_cons, List.map_nil, fn45, Nat.reduceSub, List.replicate_succ, List.replicate_zero, List.cons_append, List.nil_append, ag, qr, aR, an, aP, ak, br, ap, am, aE]
  refine yn X Y L K hw n0 fun r a M' σ1 S L1 k1 => ?_
  have fin : ∀ c x, σ1 c = Option.none → Q (.str a) (upd σ1 c x) := fun c x hc => h r a M' _ S (L1.fresh hc) fun c' hc' hn => by
    rw [ai _ _ (fun q => by rw [q] at hn hc'; rw [k1 c hc'] at hc; exact hn hc), k1 c' hc']
  cases S with
  | sendN _ =>
    simp only [fK (xs := [_, _]) (is := [_, _]) rfl, dj, eD, ez, du, aj]
    exact BB (by kernel_rfl) fin
  | handN _ =>
    simp only [fK (xs := [_, _]) (is := [_, _]) rfl, dj, eD, ez, du, aj]
    exact BB (by kernel_rfl) fin
  | tellN _ =>
    simp only [fK (xs := [_, _]) (is := [_, _]) rfl, dj, eD, ez, du, aj]
    exact BB (by kernel_rfl) fin
  | sendY _ _ =>
    simp only [fK (xs := [_, _]) (is := [_, _]) rfl, dj, eD, ez, du, aj]
    unfold say at fin
    rw [Fq] at fin
    exact BZ (by kernel_rfl) (by decide +kernel) (jX K.F).1 (jX K.F).2 fin
  | handY _ _ =>
    simp only [fK (xs := [_, _]) (is := [_, _]) rfl, dj, eD, ez, du, aj]
    unfold say at fin
    rw [Ff] at fin
    exact BZ (by kernel_rfl) (by decide +kernel) (jX K.G).1 (jX K.G).2 fin
  | @tellY n a q hx =>
    simp only [fK (xs := [_, _]) (is := [_, _]) rfl, dj, eD, ez, du, aj]
    unfold say at fin
    rw [FO] at fin
    have t := tO (n := a) (b := M.base) (t := M.top) Y.g.1 K.bt
    have t1 := jX Y.l
    exact BZ (by kernel_rfl) (by decide +kernel) (Int.le_trans K.b0 t.1) (Int.le_trans t.2 (Int.le_trans K.tt t1.2)) fin
end Ap.L13
end
section
namespace Ap.L13
open PySem
variable {d : Nat} {σ σ' : St} {Q : PQ} {E : PE} {QQ : QS} {EE : ES}
variable {B : LA} {A : RA} {P : Pm} {M : Mo}
theorem cl7 : clss[7]? = some ⟨Option.none, [], [7, 0]⟩ := rfl
theorem cl5 : clss[5]? = some ⟨Option.none, [], [5, 0]⟩ := rfl
theorem cl6 : clss[6]? = some ⟨Option.none, [], [6, 0]⟩ := rfl
theorem k77 : ([7, 0].contains 7) = true := rfl
theorem k57 : ([5, 0].contains 7) = false := rfl
theorem k55 : ([5, 0].contains 5) = true := rfl
theorem k67 : ([6, 0].contains 7) = false := rfl
theorem k65 : ([6, 0].contains 5) = false := rfl
theorem k66 : ([6, 0].contains 6) = true := rfl
noncomputable abbrev AN : List (Str × Str) := [((Str.ofString "send"), (Str.ofString "letter")), ((Str.ofString "hand"), (Str.ofString "answer")), ((Str.ofString "tell"), (Str.ofString "base"))]
theorem an1 : jz AN (Str.ofString "send") = some (Str.ofString "letter") := by kernel_rfl
theorem an2 : jz AN (Str.ofString "hand") = some (Str.ofString "answer") := by kernel_rfl
theorem an3 : jz AN (Str.ofString "tell") = some (Str.ofString "base") := by kernel_rfl
theorem BD {v : AV} {u : Nat} (h : yV v) (hq : Q (.str (Str.ofString "no line")) σ) : wpF prg (d + 5) 32 [.obj u, v] σ Q E := by
  refine aT (fi := fn32) rfl rfl ?_
  simp only [fn32, List.map_cons, List.map_nil, Nat.reduceSub, List.replicate_succ, List.replicate_zero, List.cons_append, List.nil_append, w32, ag, xe, aH, aR, an, br, ak, ap, am, aE]
  refine yd h ?_
  simp only [wI, pd, lF cl7, k77, nt, ag, bA, e_c, aN, aF, aO]
  exact hq
noncomputable def aB : WS := (ad (bP (vO2 fN (vO2 fN (uZ AN (vO2 bO (ac 2) (vC (.int 0)))) (vC (.str (Str.ofString " ")))) (vON kf (aa (ac 3) ar)))) ay)
theorem rJ {o0 o1 : Option AV} {w p : Str} {n k : Int} (hl : jz AN w = some p) (hp : p.length ≤ 10) (k0 : 0 ≤ k) (k1 : k ≤ 1000) (h : Q (.str (say p k)) σ) : aB [o0, o1, some (.tup [.str w, .int n]), some (.int k)] σ (kFn Q) (eFn E) := by
  have l1 := oi k0 (Int.le_trans k1 (by decide))
  have l2 := Str.length_append p (Str.ofString " ")
  have l3 := spl
  unfold aB
  simp only [ag, bA, aX, CI, cr, aC, e_c, aD, bD, Int.le_refl, Int.toNat_zero, List.getElem?_cons_zero, aM, zI hl, rL, cH, an, dO, ak, ap, am, cz, rS, aN, aF, aO, true_and]
  exact ⟨by omega, ⟨k0, by omega⟩, by omega, h⟩
theorem Ay (X : Ds A) (Y : PmOk P) (R : Rn A P M σ) (K : Ok P M 100) {w : Str} {n : Int} {r : AV} {a : Str} {M' : Mo} (hn : 0 ≤ n ∧ n ≤ 999999) (S : Stp P M w n r a M') (h : ∀ σ', Rn A P M' σ' → (∀ c, c ∉ A.mut → σ' c = σ c) → Q (.str a) σ') : wpF prg (d + 5) 32 [.obj A.u, .str (w ++ Str.ofString " " ++ fY n)] σ Q E := by
  have hw : w ∈ Ws := by cases S <;> first | exact wS | exact wH | exact wT
  have gn : P.g ≠ 0 := so0 Y.g.1
  refine aT (fi := fn32) rfl rfl ?_
  rw [show fn32.body (wpF prg (d + 4)) = ad (wt (ad (aw 2 (aZ (wpF prg (d + 4)) 31 (aa (ac 1) ar))) (ad (aw 3 (fQ (wpF prg (d + 4)) 11 20 23 (ac 0) (aa (ac 2) ar))) ay)) (jJ clss 7 (ad (bP (vC (.str (Str.ofString "no line")))) ay) (jJ clss 5 (ad (bP (vC (.str (Str.ofString "not now")))) ay) (jJ clss 6 (ad (bP (vC (.str (Str.ofString "no letter")))) ay) yr)))) aB from rfl]
  simp only [List.map_cons, List.map_nil, fn32, Nat.reduceSub, List.replicate_succ, List.replicate_zero, List.cons_append, List.nil_append, ag, xe, aH, aR, an, br, ak, ap, am, aE]
  refine vR hw hn.1 hn.2 ?_
  simp only [bw, lW, aj, ag, aH, eA, aP, dD R.u (m := 20) rfl, an, cr, ak, ap, am, cF]
  cases S with
  | sendN q =>
    refine AI R hn q ?_
    simp only [wI, pd, lF cl5, k57, qE, k55, nt, ag, bA, e_c, aN, aF, aO]
    exact h _ R fun _ _ => rfl
  | handN q =>
    refine zn R hn q ?_
    simp only [wI, pd, lF cl6, k67, qE, k65, k66, nt, ag, bA, e_c, aN, aF, aO]
    exact h _ R fun _ _ => rfl
  | tellN q =>
    refine zX R hn q ?_
    simp only [wI, pd, lF cl6, k67, qE, k65, k66, nt, ag, bA, e_c, aN, aF, aO]
    exact h _ R fun _ _ => rfl
  | sendY q hx =>
    refine xL X R hn gn (Nat.le_trans K.F (by decide)) q hx fun σ' R' k' => ?_
    simp only [bw, eD, ez, aj, bc]
    exact rJ an1 (by decide +kernel) (jX K.F).1 (jX K.F).2 (h _ R' k')
  | handY q hx =>
    refine wP X R hn gn Y.b.2.2.1.1 (Nat.le_trans K.G (by decide)) (Nat.le_trans K.oe (by decide)) q hx fun σ' R' k' => ?_
    simp only [bw, eD, ez, aj, bc]
    exact rJ an2 (by decide +kernel) (jX K.G).1 (jX K.G).2 (h _ R' k')
  | @tellY n a q hx =>
    refine yW R hn gn Y.b.2.2.2.1 q hx fun σ' R' k' => ?_
    simp only [bw, eD, ez, aj, bc]
    have t := tO (n := a) (b := M.base) (t := M.top) Y.g.1 K.bt
    have t1 := jX Y.l
    exact rJ an3 (by decide +kernel) (Int.le_trans K.b0 t.1) (Int.le_trans t.2 (Int.le_trans K.tt t1.2)) (h _ R' k')
inductive Plays (P : Pm) : Mo → List AV → List AV → Mo → Prop
  | nil {M : Mo} : Plays P M [] [] M
  | odd {M M' : Mo} {v : AV} {vs ds : List AV} : yV v → Plays P M vs ds M' → Plays P M (v :: vs) (.str (Str.ofString "no line") :: ds) M'
  | step {M M1 M' : Mo} {w a : Str} {n : Int} {r : AV} {vs ds : List AV} : Ok P M 100 → (0 ≤ n ∧ n ≤ 999999) → Stp P M w n r a M1 → Plays P M1 vs ds M' → Plays P M (.str (w ++ Str.ofString " " ++ fY n) :: vs) (.str a :: ds) M'
theorem Plays.app {M M' M2 : Mo} {vs ds us es : List AV} (h : Plays P M vs ds M') (h2 : Plays P M' us es M2) : Plays P M (vs ++ us) (ds ++ es) M2 := by
  induction h with
  | nil => exact h2
  | odd a _ ih => exact .odd a (ih h2)
  | step a b c _ ih => exact .step a b c (ih h2)
theorem tL {v : AV} {ts : List AV} (h : dm σ v = some ts) (k : ∀ c, σ c ≠ Option.none → σ' c = σ c) : im v ts σ' := by
  cases v <;> first | cases h | skip
  · trivial
  · have := cQ h
    show σ' _ = _
    rw [k _ (by rw [this]; intro q; cases q), this]
theorem Cr {KX : List AV → (St → Prop) → St → Prop} {v : AV} {ts : List AV} (h : dm σ v = some ts) : kXL KX v σ = KX ts (im v ts) σ := propext ⟨fun ⟨_, e, q⟩ => by rw [h] at e; cases e; exact q, fun q => ⟨_, h, q⟩⟩
theorem wi {G : St → Prop} {R : List AV → St → Prop} {o : Option AV} {σ0 : St} (X : Ds A) (Y : PmOk P) (hG : ∀ σ', (∀ c, σ0 c ≠ Option.none → σ' c = σ0 c) → G σ') (fr : ∀ c ∈ A.mut, σ0 c = Option.none) {M M' : Mo} {vs ds : List AV} (h : Plays P M vs ds M') :
    ∀ (acc : List AV) (σ : St), Rn A P M σ → (∀ c, σ0 c ≠ Option.none → σ c = σ0 c) → (∀ σ', (∀ c, σ0 c ≠ Option.none → σ' c = σ0 c) → R (acc ++ ds) σ') → mU G (tP (tb1 5) (aZ (wpF prg (d + 5)) 32 (aa (ac 4) (aa (ac 5) ar))) [Option.none, Option.none, Option.none, Option.none, some (.obj A.u), o]) vs acc σ R := by
  induction h with
  | nil => intro acc σ R k hR; exact ⟨hG _ k, by have := hR σ k; rw [List.append_nil] at this; exact this⟩
  | @odd M M' v vs ds a _ ih =>
    intro acc σ R k hR
    refine ⟨hG _ k, ?_⟩
    simp only [qL, oq, aR, an, gq, ak, lD, ap, am, aE]
    refine BD a ?_
    exact ih (acc ++ [_]) σ R k fun σ' k' => by rw [List.append_assoc]; exact hR σ' k'
  | @step M M1 M' w a n r vs ds b c e _ ih =>
    intro acc σ R k hR
    refine ⟨hG _ k, ?_⟩
    simp only [qL, oq, aR, an, gq, ak, lD, ap, am, aE]
    refine Ay X Y R b c e fun σ1 R1 k1 => ?_
    exact ih (acc ++ [_]) σ1 R1 (fun c hc => (k1 c fun q => hc (fr c q)).trans (k c hc)) fun σ' k' => by rw [List.append_assoc]; exact hR σ' k'
theorem BC {a b c e f g : Option AV} : fP [4] [a, b, c, e, f, g] = [Option.none, Option.none, Option.none, Option.none, f, Option.none] := rfl
theorem qe (Y : PmOk P) {v u : AV} {vs ds : List AV} {M' : Mo} (hv : dm σ v = some P.ts) (hu : dm σ u = some vs) (h : Plays P ⟨0, 0, 0, [], [], [], []⟩ vs ds M')
    (hq : ∀ c σ', σ' c = some (.list ds) → σ c = Option.none → (∀ c, σ c ≠ Option.none → σ' c = σ c) → Q (.obj c) σ') : wpF prg (d + 6) 33 [Bt P, .int P.g, v, u] σ Q E := by
  refine aT (fi := pO) rfl rfl ?_
  simp only [pO, List.map_cons, List.map_nil, Nat.reduceSub, List.replicate_succ, List.replicate_zero, List.cons_append, List.nil_append, w33, ag, aH, mS, an, aP, ak, br, cr, ap, am, jL]
  intro r hr
  have kr : ∀ c, σ c ≠ Option.none → upd σ r (.inst 11 []) c = σ c := fun c hc => ai _ _ fun q => hc (q ▸ hr)
  have hv1 : dm (upd σ r (.inst 11 [])) v = some P.ts := by
    cases v <;> first | cases hv | skip
    · rfl
    · have := cQ hv
      show (match upd σ r (.inst 11 []) _ with | some (.list xs) => some xs | _ => Option.none) = some P.ts
      rw [kr _ (by rw [this]; intro q; cases q), this]
  refine yo (d := d + 1) (P := P) (aq _ _ _) Y.b Y.g hv1 (Nat.le_trans Y.l (by decide)) Y.t fun A σ1 Au X R k1 f1 => ?_
  subst Au
  have k2 : ∀ c, σ c ≠ Option.none → σ1 c = σ c := fun c hc => by
    have c1 : c ≠ A.u := fun q => hc (q ▸ hr)
    rw [k1 c c1 (by rw [kr c hc]; exact hc), kr c hc]
  have hu1 : dm σ1 u = some vs := by
    cases u <;> first | cases hu | skip
    · rfl
    · have := cQ hu
      show (match σ1 _ with | some (.list xs) => some xs | _ => Option.none) = some vs
      rw [k2 _ (by rw [this]; intro q; cases q), this]
  simp only [lw, bw, nD, aj, ag, bA]
  rw [rU]
  refine ⟨rfl, ?_⟩
  rw [BC]
  simp only [zY, dO, Cr hu1, nq]
  refine wi (σ0 := σ) X Y (fun σ' k' => tL hu k') (fun c hc => ?_) h [] σ1 R k2 fun σ2 k3 => ?_
  · have := f1 c hc
    exact (nw this).2
  · simp only [List.nil_append, yi, aN, aF, aO]
    intro c hc
    refine hq c _ (aq _ _ _) ?_ fun c' hc' => ?_
    · cases e : σ c with
      | none => rfl
      | some o => rw [k3 c (by rw [e]; intro q; cases q), e] at hc; cases hc
    · rw [ai _ _ (fun q => by rw [q] at hc'; rw [← k3 c hc'] at hc'; exact hc' hc), k3 c' hc']
theorem cl1 : clss[1]? = some ⟨Option.none, [], [1, 0]⟩ := rfl
theorem cl2 : clss[2]? = some ⟨Option.none, [], [2, 0]⟩ := rfl
theorem cl3 : clss[3]? = some ⟨Option.none, [], [3, 0]⟩ := rfl
theorem Fj {n : Nat} : ([n, 0].contains 0) = true := by simp
theorem kM {n : Nat} {i : Int} {a b c : AV} (hc : clss[n]? = some ⟨Option.none, [], [n, 0]⟩) (hi : [([n, 0].contains 1), ([n, 0].contains 2), ([n, 0].contains 3)].count true = 1 ∧ true ∈ [([n, 0].contains 1), ([n, 0].contains 2), ([n, 0].contains 3)] ∧ (([([n, 0].contains 1), ([n, 0].contains 2), ([n, 0].contains 3)].idxOf true : Nat) : Int) = i ∧ (i = 0 ∨ i = 1 ∨ i = 2))
    (hp : ∀ (v : AV) (Q : PQ) (E : PE), (∀ σ', E n σ') → wpF prg d 33 [a, b, c, v] σ Q E) (h : ∀ σ', Q (.int i) σ') : wpF prg (d + 1) 46 [a, b, c] σ Q E := by
  obtain ⟨h1, h2, h3, h4⟩ := hi
  refine aT (fi := zf) rfl rfl ?_
  simp only [zf, List.map_cons, List.map_nil, Nat.reduceSub, List.replicate_succ, List.replicate_zero, List.cons_append, List.nil_append, w46, ag, xe, bX, aR, an, aP, ak, br, cr, dz, e_c, ap, am, dJ, aE]
  refine hp _ _ _ fun σ' => ?_
  have e3 : ([AV.bool ([n, 0].contains 1), .bool ([n, 0].contains 2), .bool ([n, 0].contains 3)] : List AV) = [([n, 0].contains 1), ([n, 0].contains 2), ([n, 0].contains 3)].map .bool := rfl
  simp only [wI, pd, Ab hc, Fj, CA, mZ, ag, aH, dz, an, bQ, dO, bN, Ci hc, ak, ap, am, dJ, bw, nD, aj, bA, EF, bd, lM, gq]
  rw [e3]
  generalize hbs : [([n, 0].contains 1), ([n, 0].contains 2), ([n, 0].contains 3)] = bs at h1 h2 h3
  have c1 : ((((List.count true bs : Nat) : Int)) == 1) = true := by rw [h1]; rfl
  simp only [fH (rc := rcI) (v := .ilist (bs.map .bool)) (σ := σ') ⟨_, rfl⟩, an, e_c, ak, ap, am, eE, xC, aL, az, aI, iO, c1, bV, cJ, au, aG, Cb, aX, dz, dJ, aC, lM, gq, wO h2, h3, aD]
  rcases h4 with rfl | rfl | rfl <;> simp only [i_l, Int.le_refl, Int.toNat_zero, List.getElem?_cons_zero, aM, aN, aF, FM, aO, true_and, Int.reduceLE, Int.toNat_one, List.getElem?_cons_succ, Int.reduceToNat] <;> exact h _
theorem Gh (h : ∀ σ', Q (.int 0) σ') : wpF prg (d + 6) 46 [.tup [.int 0, .int 0, .int 0, .int 0], .int 0, .none] σ Q E := by
  refine kM cl1 ⟨rfl, by decide, rfl, .inl rfl⟩ (fun v Q E hE => ?_) h
  refine aT (fi := pO) rfl rfl ?_
  simp only [pO, List.map_cons, List.map_nil, Nat.reduceSub, List.replicate_succ, List.replicate_zero, List.cons_append, List.nil_append, w33, ag, aH, mS, an, aP, ak, br, cr, ap, am, jL]
  intro r hr
  refine aT (fi := pI) rfl rfl ?_
  simp only [pI, List.map_cons, List.map_nil, Nat.reduceSub, List.replicate_zero, List.cons_append, List.nil_append, w22, ag, bX, aR, an, br, ak, ap, am, aE]
  exact ya rfl rfl rfl rfl rfl (hE _)
theorem Ga (Y : PmOk P) (h : ∀ σ', Q (.int 1) σ') : wpF prg (d + 6) 46 [Bt P, .int 0, .none] σ Q E := by
  refine kM cl2 ⟨rfl, by decide, rfl, .inr (.inl rfl)⟩ (fun v Q E hE => ?_) h
  refine aT (fi := pO) rfl rfl ?_
  simp only [pO, List.map_cons, List.map_nil, Nat.reduceSub, List.replicate_succ, List.replicate_zero, List.cons_append, List.nil_append, w33, ag, aH, mS, an, aP, ak, br, cr, ap, am, jL]
  intro r hr
  refine aT (fi := pI) rfl rfl ?_
  simp only [pI, List.map_cons, List.map_nil, Nat.reduceSub, List.replicate_zero, List.cons_append, List.nil_append, w22, ag, bX, aR, an, br, ak, ap, am, aE]
  refine mG Y.b ?_
  simp only [cA, aj, ag, bX, aR, an, cr, ak, ap, am, aE]
  exact wK rfl rfl (hE _)
theorem FX (Y : PmOk P) (h : ∀ σ', Q (.int 2) σ') : wpF prg (d + 6) 46 [Bt P, .int P.g, .ilist [.int 5]] σ Q E := by
  refine kM cl3 ⟨rfl, by decide, rfl, .inr (.inr rfl)⟩ (fun v Q E hE => ?_) h
  refine aT (fi := pO) rfl rfl ?_
  simp only [pO, List.map_cons, List.map_nil, Nat.reduceSub, List.replicate_succ, List.replicate_zero, List.cons_append, List.nil_append, w33, ag, aH, mS, an, aP, ak, br, cr, ap, am, jL]
  intro r hr
  refine aT (fi := pI) rfl rfl ?_
  simp only [pI, List.map_cons, List.map_nil, Nat.reduceSub, List.replicate_zero, List.cons_append, List.nil_append, w22, ag, bX, aR, an, br, ak, ap, am, aE]
  refine mG Y.b ?_
  simp only [cA, aj, ag, bX, aR, an, cr, ak, ap, am, aE]
  refine qd rfl (fM Y.g) ?_
  simp only [cA, aj, ag, bX, aR, an, dO, ak, ap, am, aE]
  exact vS (pre := []) (post := []) (b := .int 5) (by decide) (fun _ h => nomatch h) (.inl ⟨rfl, rfl⟩) (hE _)
end Ap.L13
end
section
namespace Ap.L13
open PySem
variable {d : Nat} {σ σ' : St} {Q : PQ} {E : PE} {QQ : QS} {EE : ES}
variable {B : LA} {A : RA} {P : Pm} {M : Mo}
theorem mx {k : Int} (h : k ≤ 999999) : 0 ≤ (if k > 0 then k else 0) ∧ (if k > 0 then k else 0) ≤ 999999 := by
  split <;> omega
theorem dr1 {b x w : Int} (hb : b ≤ 100) (h : x < w) (hw : w ≤ 20) : b + x ≤ 999999 := by omega
theorem dr2 {b x w : Int} (hb : b ≤ 100) (h : x < w + 3) (hw : w ≤ 20) : b - 1 + x ≤ 999999 := by omega
theorem dr3 {n : Nat} {z x : Int} (hn : n ≤ 100) (hx : 0 - 21 ≤ x) : (n : Int) - 1 - x ≤ 999999 := by omega
theorem dr4 {x : Int} (h0 : 0 ≤ x) (h1 : x < 8) (h : ¬ x < 3) : x.fdiv 6 = 0 ∨ x.fdiv 6 = 1 := by
  have : x = 3 ∨ x = 4 ∨ x = 5 ∨ x = 6 ∨ x = 7 := by omega
  rcases this with rfl | rfl | rfl | rfl | rfl
  · exact .inl rfl
  · exact .inl rfl
  · exact .inl rfl
  · exact .inr rfl
  · exact .inr rfl
theorem dr5 {x : Int} (h0 : 0 ≤ x) (h1 : x < 2) : x = 0 ∨ x = 1 := by omega
theorem dr6 {z : Int} (h : 0 ≤ z) : z + 1 ≠ 0 ∧ 0 < z + 1 := by omega
theorem dr7 {z : Int} (h : 0 ≤ z) : 0 - 21 ≤ z := by omega
theorem dr8 {z : Int} (h : 0 ≤ z) (h1 : z ≤ 20) : 0 - 21 ≤ z + 1 ∧ 0 - 21 ≤ -1 - z := by omega
theorem dr9 {w : Int} (h : 1 ≤ w) : w ≠ 0 ∧ 0 < w ∧ w + 3 ≠ 0 ∧ 0 < w + 3 := by omega
noncomputable def dT : WS := (ad (aw 7 (vO2 bK (ac 3) (vO2 bZ (ac 6) (vC (.int 1))))) (ad (bY (bG (vO2 bK (vO2 bC (ac 3) (vC (.int 40))) (vC (.int 9))) (aS cEq (vC (.int 1)) bF)) (ad (aw 7 (vO2 di (cU false (aa (vO2 bZ (ac 6) (vC (.int 1))) (aa (vO2 dZ (vO1 zC (vC (.int 1))) (ac 6)) ar))) (vO2 bK (vO2 bC (ac 3) (vC (.int 360))) (vC (.int 2))))) ay) ay) (ad (bP (et (aa (vO2 di (cU false (aa (vC (.str (Str.ofString "hand"))) (aa (vC (.str (Str.ofString "tell"))) ar))) (vO2 bC (ac 2) (vC (.int 6)))) (aa (vON jK (aa (vC (.int 0)) (aa (vO2 dZ (vO2 dZ (vON dG (aa (ac 5) ar)) (vC (.int 1))) (ac 7)) ar))) ar)))) ay)))
theorem Bq {o0 o1 o4 o7 : Option AV} {ki mo z : Int} {a : Nat} {R : List AV} (ha : σ a = some (.list R)) (hR : R.length ≤ 100) (z0 : 0 ≤ z) (z1 : z ≤ 20) (hk : ki.fdiv 6 = 0 ∨ ki.fdiv 6 = 1) (h : ∀ w n, w ∈ Ws → 0 ≤ n → n ≤ 999999 → Q (.tup [.str w, .int n]) σ) : dT [o0, o1, some (.int ki), some (.int mo), o4, some (.obj a), some (.int z), o7] σ (kFn Q) (eFn E) := by
  have fin : ∀ x : Int, 0 - 21 ≤ x → (ad (bP (et (aa (vO2 di (cU false (aa (vC (.str (Str.ofString "hand"))) (aa (vC (.str (Str.ofString "tell"))) ar))) (vO2 bC (ac 2) (vC (.int 6)))) (aa (vON jK (aa (vC (.int 0)) (aa (vO2 dZ (vO2 dZ (vON dG (aa (ac 5) ar)) (vC (.int 1))) (ac 7)) ar))) ar)))) ay) [o0, o1, some (.int ki), some (.int mo), o4, some (.obj a), some (.int z), some (.int x)] σ (kFn Q) (eFn E)   := fun x hx => by
    have m := mx (dr3 (z := 0) hR hx)
    rcases hk with e | e
    · simp only [ag, bA, dh, an, aX, dz, e_c, ak, ap, am, dJ, aC, cr, aD, bS, ne_eq, Int.reduceEq, not_false_eq_true, Int.reduceAbs, Nat.reduceLT, and_true, e, i_l, Int.le_refl, Int.toNat_zero, List.getElem?_cons_zero, aM, cH, lD, cz, dE ha, dL, qR, jI, cn, aN, aF, aO, true_and]
      exact h _ _ wH m.1 m.2
    · simp only [ag, bA, dh, an, aX, dz, e_c, ak, ap, am, dJ, aC, cr, aD, bS, ne_eq, Int.reduceEq, not_false_eq_true, Int.reduceAbs, Nat.reduceLT, and_true, e, i_l, Int.reduceLE, Int.toNat_one, List.getElem?_cons_succ, List.getElem?_cons_zero, aM, cH, lD, cz, dE ha, dL, qR, jI, cn, aN, aF, aO, true_and]
      exact h _ _ wT m.1 m.2
  have c := dr6 z0
  unfold dT
  simp only [ag, aH, aX, AR, yK, yT, aM, aC, e_c, aD, cf, bR, ne_eq, c.1, not_false_eq_true, bw, eD, ez, aj, bh, bd, bS, Int.reduceEq, Int.reduceAbs, Nat.reduceLT, true_and, aL, az, aI, iO, bH, au, aG]
  cases (((mo.fdiv 40).fmod 9) == 1) with
  | false =>
    simp only [bg, bc, aj]
    exact fin _ (dr7 (bL c.2))
  | true =>
    simp only [bv, ag, aH, aX, dz, an, AR, yK, yT, aM, aC, e_c, aD, cf, ak, bQ, bN, DQ, dL, ap, am, dJ, bS, ne_eq, Int.reduceEq, not_false_eq_true, Int.reduceAbs, Nat.reduceLT, true_and, bR, i_l]
    refine ⟨bL (by decide), ?_⟩
    rcases dr5 (bL (a := mo.fdiv 360) (b := 2) (by decide)) (bW (a := mo.fdiv 360) (b := 2) (by decide)) with e | e
    · rw [e]
      simp only [Int.toNat_zero, List.getElem?_cons_zero, aM, bw, eD, ez, aj, bc]
      exact fin _ (dr8 z0 z1).1
    · rw [e]
      simp only [Int.toNat_one, List.getElem?_cons_succ, List.getElem?_cons_zero, aM, bw, eD, ez, aj, bc]
      exact fin _ (dr8 z0 z1).2
theorem yh (Y : PmOk P) (L : Lm B P M σ) (K : Ok P M 100) {c : Int} (h : ∀ w n, w ∈ Ws → 0 ≤ n → n ≤ 999999 → Q (.tup [.str w, .int n]) σ) : wpF prg (d + 1) 44 [.obj B.t, .int c] σ Q E := by
  refine aT (fi := yX) rfl rfl ?_
  have t1 := Int.le_trans K.tt (Int.ofNat_le.mpr Y.l)
  have b1 := Int.le_trans K.bt t1
  have w9 := dr9 Y.b.1.1
  simp only [yX, List.map_cons, List.map_nil, Nat.reduceSub, List.replicate_succ, List.replicate_zero, List.cons_append, List.nil_append, w44, ag, aH, aX, br, aC, e_c, aD, bR, ne_eq, Int.reduceEq, not_false_eq_true, bw, lW, aj, bS, Int.reduceAbs, Nat.reduceLT, and_true, mZ, bh, bd, cr, aL, az, aI, wp, bH, au, aG, true_and]
  by_cases hk : c.fmod 8 < 3
  · have w0 := bW (a := c.fdiv 8) w9.2.1
    simp only [decide_eq_true hk, bv, ag, aH, aX, aP, aC, e_c, aD, aA L.t er, dO, aA L.t da, bD, Int.le_refl, Int.toNat_zero, List.getElem?_cons_zero, aM, bR, ne_eq, w9.1, not_false_eq_true, cf, bw, nD, aj, bh, bd, bS, Int.reduceEq, Int.reduceAbs, Nat.reduceLT, and_true, aL, az, aI, iO, bH, au, aG, true_and]
    cases ((((c.fdiv 8).fdiv 20).fmod 7) == 1) with
    | true =>
      have w3 := bW (a := (c.fdiv 8).fdiv 140) w9.2.2.2
      simp only [bv, ag, aH, aX, aP, aC, e_c, aD, aA L.t er, dL, dO, bS, ne_eq, Int.reduceEq, not_false_eq_true, Int.reduceAbs, Nat.reduceLT, and_true, aA L.t da, bD, Int.le_refl, Int.toNat_zero, List.getElem?_cons_zero, aM, cf, bR, w9.2.2.1, bw, nD, aj, bc, bA, dh, an, ak, cH, gq, ap, am, cz, jI, cn, aN, aF, aO, true_and]
      have m := mx (dr2 b1 w3 Y.b.1.2)
      exact h _ _ wS m.1 m.2
    | false =>
      simp only [bg, ag, bh, bd, aX, dO, aC, e_c, aD, bS, ne_eq, Int.reduceEq, not_false_eq_true, Int.reduceAbs, Nat.reduceLT, and_true, bR, aL, az, aI, pH, bH, au, aG, true_and]
      cases decide (((c.fdiv 8).fdiv 20).fmod 7 > 3) with
      | true =>
        simp only [bv, ag, aH, aX, aP, aC, e_c, aD, aA L.t pR, bw, nD, aj, bc, bA, dh, an, ak, cH, gq, ap, am, cz, jI, cn, aN, aF, aO]
        have m := mx (Int.le_trans t1 (by decide))
        exact h _ _ wS m.1 m.2
      | false =>
        simp only [bg, bc, aj, ag, bA, dh, an, e_c, ak, cH, gq, ap, am, cz, jI, cn, aN, aF, aO]
        have m := mx (dr1 b1 w0 Y.b.1.2)
        exact h _ _ wS m.1 m.2
  · have e := dr4 (bL (a := c) (b := 8) (by decide)) (bW (a := c) (b := 8) (by decide)) hk
    simp only [decide_eq_false hk, bg, bc, aj]
    rcases id e with q | q
    · refine (?_ : ad (aw 5 (vO2 di (cU false (aa (vO2 aJ (ac 0) (vC (.str (Str.ofString "letters")))) (aa (vO2 aJ (ac 0) (vC (.str (Str.ofString "answers")))) ar))) (vO2 bC (ac 2) (vC (.int 6))))) (ad (aw 6 (vO2 bO (vO2 aJ (ac 0) (vC (.str (Str.ofString "bounds")))) (vO2 bZ (vC (.int 2)) (vO2 bC (ac 2) (vC (.int 6)))))) dT) _ _ _ _)
      simp only [ag, aH, aX, dz, an, aP, aC, e_c, aD, aA L.t dR, ak, aA L.t dH, ap, am, dJ, cr, bS, ne_eq, Int.reduceEq, not_false_eq_true, Int.reduceAbs, Nat.reduceLT, and_true, q, i_l, Int.le_refl, Int.toNat_zero, List.getElem?_cons_zero, aM, bw, oq, aj, aA L.t da, cf, Int.add_zero, bD, Int.reduceLE, Int.reduceToNat, List.getElem?_cons_succ, zm, true_and]
      exact Bq L.l K.F Y.b.2.2.1.1 Y.b.2.2.1.2 e h
    · refine (?_ : ad (aw 5 (vO2 di (cU false (aa (vO2 aJ (ac 0) (vC (.str (Str.ofString "letters")))) (aa (vO2 aJ (ac 0) (vC (.str (Str.ofString "answers")))) ar))) (vO2 bC (ac 2) (vC (.int 6))))) (ad (aw 6 (vO2 bO (vO2 aJ (ac 0) (vC (.str (Str.ofString "bounds")))) (vO2 bZ (vC (.int 2)) (vO2 bC (ac 2) (vC (.int 6)))))) dT) _ _ _ _)
      simp only [ag, aH, aX, dz, an, aP, aC, e_c, aD, aA L.t dR, ak, aA L.t dH, ap, am, dJ, cr, bS, ne_eq, Int.reduceEq, not_false_eq_true, Int.reduceAbs, Nat.reduceLT, and_true, q, i_l, Int.reduceLE, Int.toNat_one, List.getElem?_cons_succ, List.getElem?_cons_zero, aM, bw, oq, aj, aA L.t da, cf, show (2 : Int) + 1 = 3 from rfl, bD, show (3 : Int).toNat = 3 from rfl, zm, true_and]
      exact Bq L.a K.G Y.b.2.2.2.1 Y.b.2.2.2.2 e h
noncomputable def Self (n : Nat) (σ : St) (v : AV) : Prop := ∃ p, rd n σ v = some p ∧ PyData.eqv p p = true
theorem ou {n : Nat} : ∀ {xs : List AV}, (∀ x ∈ xs, Self n σ x) → ∃ ps, jS (rd n σ) xs = some ps ∧ PyData.eqvAll ps ps = true := by
  intro xs
  induction xs with
  | nil => intro _; exact ⟨[], rfl, rfl⟩
  | cons x xs ih =>
    intro h
    obtain ⟨p, h1, h2⟩ := h x List.mem_cons_self
    obtain ⟨ps, h3, h4⟩ := ih fun y hy => h y (List.mem_cons_of_mem _ hy)
    refine ⟨p :: ps, by rw [jS, h1, h3]; rfl, ?_⟩
    rw [PyData.eqvAll, h2, h4]; rfl
theorem uj {n : Nat} {xs : List AV} (h : ∀ x ∈ xs, Self n σ x) : Self (n + 1) σ (.ilist xs) := by
  obtain ⟨ps, h1, h2⟩ := ou h
  refine ⟨.list ps, ?_, by rw [PyData.eqv]; exact h2⟩
  show (jS (rd n σ) xs).map PyData.list = _
  rw [h1]; rfl
theorem CG {n : Nat} {xs : List AV} (h : ∀ x ∈ xs, Self n σ x) : Self (n + 1) σ (.tup xs) := by
  obtain ⟨ps, h1, h2⟩ := ou h
  refine ⟨.tuple ps, ?_, by rw [PyData.eqv]; exact h2⟩
  show (jS (rd n σ) xs).map PyData.tuple = _
  rw [h1]; rfl
theorem tq {n : Nat} {a : Nat} {xs : List AV} (ha : σ a = some (.list xs)) : rd (n + 1) σ (.obj a) = (jS (rd n σ) xs).map PyData.list := by
  show ((match σ a with | some (.list xs) => some xs | _ => Option.none).bind fun xs => (jS (rd n σ) xs).map PyData.list) = _
  rw [ha]; rfl
theorem tf {n : Nat} {i : Int} : Self (n + 1) σ (.int i) := ⟨.int i, rfl, by simp [PyData.eqv]⟩
theorem jk {n : Nat} {s : Str} : Self (n + 1) σ (.str s) := ⟨.str s, rfl, by simp [PyData.eqv]⟩
theorem wu {n : Nat} {b : Bool} : Self (n + 1) σ (.bool b) := ⟨.bool b, rfl, by simp [PyData.eqv]⟩
theorem vP {n : Nat} : Self (n + 1) σ .none := ⟨.none, rfl, by simp [PyData.eqv]⟩
theorem Dm {a b : Nat} {xs : List AV} (ha : σ a = some (.list xs)) (hb : σ b = some (.list xs)) (h : ∀ x ∈ xs, Self 7 σ x) {K : Bool → Prop} : cNe (.obj a) (.obj b) σ K = K false := by
  obtain ⟨ps, h1, h2⟩ := ou h
  exact AX (a := .list ps) (by rw [tq ha, h1]; rfl) (by rw [tq hb, h1]; rfl) (by rw [PyData.eqv]; exact h2)
theorem CT {a b : Nat} (ha : σ a = some (.list [])) (hb : σ b = some (.list [])) {K : Bool → Prop} : cEq (.obj a) (.obj b) σ K = K true :=
  Dv (a := .list []) (by rw [tq ha]; rfl) (by rw [tq hb]; rfl) rfl
theorem DJ {a : Nat} {ts xs : List AV} (ha : σ a = some (.list xs)) (ht : ∀ x ∈ ts, Self 6 σ x) (h : ∀ x ∈ xs, Self 6 σ x) {K : Bool → Prop} : cNe (.ilist [.ilist ts, .ilist xs]) (.ilist [.ilist ts, .obj a]) σ K = K false := by
  obtain ⟨p, h1, h2⟩ := uj (n := 7) (xs := [.ilist ts, .ilist xs]) (fun x hx => by
    simp only [List.mem_cons, List.not_mem_nil, or_false] at hx
    rcases hx with rfl | rfl
    · exact uj (n := 6) ht
    · exact uj (n := 6) h)
  refine AX h1 ?_ h2
  rw [← h1]
  show (jS (rd 7 σ) [.ilist ts, .obj a]).map PyData.list = (jS (rd 7 σ) [.ilist ts, .ilist xs]).map PyData.list
  simp only [jS]
  rw [tq ha]
  rfl
theorem Plays.strs {M' : Mo} {vs ds : List AV} (h : Plays P M vs ds M') : ∀ v ∈ ds, ∃ s, v = .str s := by
  induction h with
  | nil => intro v hv; cases hv
  | odd _ _ ih => intro v hv; exact (List.mem_cons.mp hv).elim (fun e => ⟨_, e⟩) (ih v)
  | step _ _ _ _ ih => intro v hv; exact (List.mem_cons.mp hv).elim (fun e => ⟨_, e⟩) (ih v)
noncomputable def wJ (v : AV) : Prop := ∀ σ : St, Self 6 σ v
noncomputable def lB (F : Calls) : WS := (ad (aw 12 (aZ F 44 (aa (ac 8) (aa (ac 11) ar)))) (ad (bY (bG (vO2 bK (vO2 bC (ac 11) (vC (.int 3))) (vC (.int 8))) (aS cEq (vC (.int 7)) bF)) (ad (aw 13 (cU false (aa (vC (.str (Str.ofString ""))) (aa (vC (.str (Str.ofString "send"))) (aa (vC (.str (Str.ofString "send 01"))) (aa (vC (.str (Str.ofString "keep 1"))) (aa (vC (.str (Str.ofString "hand -1"))) (aa (vC (.str (Str.ofString " tell 0"))) (aa (vC (.str (Str.ofString "tell 0 "))) (aa (vC (.str (Str.ofString "SEND 0"))) ar)))))))))) (ad (aw 13 (vO2 (vc false) (ac 13) (cU false (aa (vC .none) (aa (vC (.int 5)) (aa (et (aa (vC (.str (Str.ofString "send"))) (aa (vC (.int 0)) ar))) (aa (vC (.bool true)) ar))))))) (ad (cM (vBm rcL cb (ac 9) (aa (vO2 di (ac 13) (vO2 bK (vO2 bC (ac 11) (vC (.int 24))) (vC (.int 12)))) ar))) (ad (cM (vBm rcL cb (ac 10) (aa (vC (.str (Str.ofString "no line"))) ar))) ay)))) (ad (cM (vBm rcL cb (ac 9) (aa (vO2 fN (vO2 fN (vO2 bO (ac 12) (vC (.int 0))) (vC (.str (Str.ofString " ")))) (vON kf (aa (vO2 bO (ac 12) (vC (.int 1))) ar))) ar))) (ad (cM (vBm rcL cb (ac 10) (aa (aZ F 45 (aa (ac 8) (aa (ac 12) ar))) ar))) ay))) ay))
noncomputable def lB2 (F : Calls) : WS := (ad (aw 16 (aZ F 33 (aa (ac 1) (aa (ac 6) (aa (vO2 di (ac 14) (vC (.int 0))) (aa (vO2 di (ac 14) (vC (.int 1))) ar)))))) (ad (bY (vBl (aV false (vO1 eX (vO1 uV (ac 16))) (aV false (bG (ac 16) (aS cNe (ac 10) bF)) (aV false (bG (ac 14) (aS cNe (cU false (aa (ac 7) (aa (ac 9) ar))) bF)) (cV false))))) (ad (bP (vC (.bool false))) ay) ay) (ad (cM (vBm rcL cb (ac 16) (aa (vC (.str (Str.ofString "more"))) ar))) ay)))
noncomputable def bT3 (F : Calls) : WS := (ad (bY (vBl (aV false (bG (aZ F 46 (aa (et (aa (vC (.int 0)) (aa (vC (.int 0)) (aa (vC (.int 0)) (aa (vC (.int 0)) ar))))) (aa (vC (.int 0)) (aa (vC .none) ar)))) (aS cNe (vC (.int 0)) bF)) (aV false (bG (aZ F 46 (aa (ac 1) (aa (vC (.int 0)) (aa (vC .none) ar)))) (aS cNe (vC (.int 1)) bF)) (cV false)))) (ad (bP (vC (.bool false))) ay) ay) (ad (bP (vBl (aV true (bG (aZ F 46 (aa (ac 1) (aa (ac 6) (aa (cU false (aa (vC (.int 5)) ar)) ar)))) (aS cEq (vC (.int 2)) bF)) (aV true (bG (aZ F 33 (aa (ac 1) (aa (ac 6) (aa (ac 7) (aa (cU true ar) ar))))) (aS cEq (cU true ar) bF)) (cV true))))) ay))
noncomputable def bT2 (F : Calls) : WS := (ad (aw 14 (cU false (aa (vON (oList false) (aa (ac 7) ar)) (aa (vON (oList false) (aa (ac 9) ar)) ar)))) (ad (qf 15 (kC (aa (vC (.int 2)) ar)) (lB2 F)) (bT3 F)))
theorem zw {v : AV} (hv : v ∈ [AV.str (Str.ofString ""), .str (Str.ofString "send"), .str (Str.ofString "send 01"), .str (Str.ofString "keep 1"), .str (Str.ofString "hand -1"), .str (Str.ofString " tell 0"), .str (Str.ofString "tell 0 "), .str (Str.ofString "SEND 0")] ++ [.none, .int 5, .tup [.str (Str.ofString "send"), .int 0], .bool true]) : yV v ∧ wJ v := by
  have st : ∀ s : Str, s.length ≤ 1000 → yG (cs s) = false → yV (.str s) ∧ wJ (.str s) := fun s h1 h2 => ⟨.inr ⟨_, rfl, h1, h2⟩, fun σ => jk⟩
  simp only [List.cons_append, List.nil_append, List.mem_cons, List.not_mem_nil, or_false] at hv
  rcases hv with rfl | rfl | rfl | rfl | rfl | rfl | rfl | rfl | rfl | rfl | rfl | rfl
  · exact st _ (by decide +kernel) (by decide +kernel)
  · exact st _ (by decide +kernel) (by decide +kernel)
  · exact st _ (by decide +kernel) (by decide +kernel)
  · exact st _ (by decide +kernel) (by decide +kernel)
  · exact st _ (by decide +kernel) (by decide +kernel)
  · exact st _ (by decide +kernel) (by decide +kernel)
  · exact st _ (by decide +kernel) (by decide +kernel)
  · exact st _ (by decide +kernel) (by decide +kernel)
  · exact ⟨.inl ⟨rfl, rfl⟩, fun σ => vP⟩
  · exact ⟨.inl ⟨rfl, rfl⟩, fun σ => tf⟩
  · exact ⟨.inl ⟨rfl, rfl⟩, fun σ => CG fun x hx => by
      simp only [List.mem_cons, List.not_mem_nil, or_false] at hx
      rcases hx with rfl | rfl
      · exact jk
      · exact tf⟩
  · exact ⟨.inl ⟨rfl, rfl⟩, fun σ => wu⟩
noncomputable abbrev M0 : Mo := ⟨0, 0, 0, [], [], [], []⟩
structure Bh (B : LA) (P : Pm) (l1 l2 : Nat) (i : Nat) (σ : St) (M : Mo) (L D : List AV) : Prop where
  m : Lm B P M σ
  p : Plays P M0 L D M
  k : Ok P M i
  l1 : σ l1 = some (.list L)
  l2 : σ l2 = some (.list D)
  n1 : L.length = i
  n2 : D.length = i
  s : ∀ v ∈ L, wJ v
structure Out (B : LA) (l1 l2 : Nat) : Prop where
  a1 : l1 ∉ B.all
  a2 : l2 ∉ B.all
  d : l1 ≠ l2
theorem Lm.out (L : Lm B P M σ) {l : Nat} {x : AObj} (h : l ∉ B.all) : Lm B P M (upd σ l x) where
  t := (ai _ _ (Ne.symm (iR h BP))).trans L.t
  o := (ai _ _ (Ne.symm (iR h Dn))).trans L.o
  e := (ai _ _ (Ne.symm (iR h Cn))).trans L.e
  l := (ai _ _ (Ne.symm (iR h DM))).trans L.l
  a := (ai _ _ (Ne.symm (iR h Dl))).trans L.a
theorem dg {a : Nat} {o : AObj} (h : σ a = some o) : σ a ≠ Option.none := by rw [h]; intro q; cases q
theorem Aw (X : LD B) (Y : PmOk P) {l1 l2 : Nat} (O : Out B l1 l2) {i : Nat} (hi : i < 30) {L D : List AV} (H : Bh B P l1 l2 i σ M L D) {c : Int} {o0 o1 o2 o3 o4 o5 o6 o7 o11 o12 o13 o14 o15 o16 : Option AV} {R : QS}
    (h : ∀ M' L' D' σ' p12 p13, Bh B P l1 l2 (i + 1) σ' M' L' D' → R .next [o0, o1, o2, o3, o4, o5, o6, o7, some (.obj B.t), some (.obj l1), some (.obj l2), some (.int c), p12, p13, o14, o15, o16] σ') :
    nh 11 (lB (wpF prg (d + 5))) EE (.int c) [o0, o1, o2, o3, o4, o5, o6, o7, some (.obj B.t), some (.obj l1), some (.obj l2), o11, o12, o13, o14, o15, o16] σ R := by
  have K1 := H.k.more (Nat.le_trans (Nat.le_of_lt hi) (by decide : 30 ≤ 100))
  have z1 : L.length ≤ 1000000 := by rw [H.n1]; omega
  have z2 : D.length ≤ 1000000 := by rw [H.n2]; omega
  unfold lB
  simp only [iq, Df, ag, aH, aR, an, yA, ak, yP, ap, am, aE]
  refine yh Y H.m K1 fun w n hw n0 n1 => ?_
  simp only [bw, EQ, aj, ag, bh, bd, aX, yP, aC, e_c, aD, bS, ne_eq, Int.reduceEq, not_false_eq_true, Int.reduceAbs, Nat.reduceLT, and_true, bR, aL, az, aI, iO, bH, au, aG, true_and]
  cases ((c.fdiv 3).fmod 8 == 7) with
  | true =>
    simp only [bv, ag, aH, dz, an, e_c, ak, ap, am, dJ, bw, DC, aj, aX, DL, aC, dh, cn, aD, BV, List.length_cons, List.length_nil, Nat.reduceAdd, Nat.reduceLeDiff, List.cons_append, List.nil_append, bX, lM, yz, fH (rc := rcL) (v := .obj l1) (σ := σ) ⟨_, _, rfl, H.l1⟩, yP, bS, ne_eq, Int.reduceEq, not_false_eq_true, Int.reduceAbs, Nat.reduceLT, and_true, bR, true_and]
    refine zd (bL (by decide)) (bW (a := c.fdiv 24) (b := 12) (by decide)) fun v hv => ?_
    obtain ⟨ho, hsv⟩ := zw hv
    have u2 : upd σ l1 (.list (L ++ [v])) l2 = some (.list D) := (ai _ _ (Ne.symm O.d)).trans H.l2
    simp only [ak, ap, am, eE, dy H.l1 z1, cA, aj, ag, bX, lM, yf, fH (rc := rcL) (v := .obj l2) (σ := upd σ l1 (.list (L ++ [v]))) ⟨_, _, rfl, u2⟩, an, e_c, dy u2 z2, bc]
    refine h M (L ++ [v]) (D ++ [_]) _ _ _ ⟨(H.m.out O.a1).out O.a2, H.p.app (.odd ho .nil), H.k.more (Nat.le_succ i), (ai _ _ O.d).trans (aq _ _ _), aq _ _ _, by rw [List.length_append, H.n1]; rfl, by rw [List.length_append, H.n2]; rfl, fun x hx => ?_⟩
    exact (List.mem_append.mp hx).elim (H.s x) fun q => by rw [List.mem_singleton.mp q]; exact hsv
  | false =>
    have ll := sO hw n0 n1
    have ll1 := Str.length_append w (Str.ofString " ")
    have ll2 := Str.length_append (w ++ Str.ofString " ") (fY n)
    simp only [bg, ag, bX, lM, yz, fH (rc := rcL) (v := .obj l1) (σ := σ) ⟨_, _, rfl, H.l1⟩, an, aX, AP, aC, e_c, aD, bD, Int.le_refl, Int.toNat_zero, List.getElem?_cons_zero, aM, rL, cH, Int.reduceLE, Int.toNat_one, List.getElem?_cons_succ, ak, ap, am, cz, rS, eE, true_and]
    refine ⟨by omega, ⟨n0, by omega⟩, by omega, ?_⟩
    have u2 : upd σ l1 (.list (L ++ [.str (w ++ Str.ofString " " ++ fY n)])) l2 = some (.list D) := (ai _ _ (Ne.symm O.d)).trans H.l2
    have u1 := aq σ l1 (.list (L ++ [.str (w ++ Str.ofString " " ++ fY n)]))
    have m1 := H.m.out (x := .list (L ++ [.str (w ++ Str.ofString " " ++ fY n)])) O.a1
    simp only [dy H.l1 z1, cA, aj, ag, bX, lM, yf, fH (rc := rcL) (v := .obj l2) (σ := upd σ l1 (.list (L ++ [.str (w ++ Str.ofString " " ++ fY n)]))) ⟨_, _, rfl, u2⟩, an, aR, yA, ak, AP, ap, am, aE]
    generalize upd σ l1 (.list (L ++ [.str (w ++ Str.ofString " " ++ fY n)])) = σ1 at u1 u2 m1 ⊢
    refine BH X Y m1 K1 hw n0 fun r a M' σ2 S m2 k2 => ?_
    have v1 := (k2 l1 O.a1 (dg u1)).trans u1
    have v2 := (k2 l2 O.a2 (dg u2)).trans u2
    simp only [ak, ap, am, eE, dy v2 z2, cA, aj, bc]
    refine h M' _ _ _ _ _ ⟨m2.out O.a2, H.p.app (.step K1 ⟨n0, n1⟩ S .nil), H.k.step Y S, (ai _ _ O.d).trans v1, aq _ _ _, by rw [List.length_append, H.n1]; rfl, by rw [List.length_append, H.n2]; rfl, fun x hx => ?_⟩
    exact (List.mem_append.mp hx).elim (H.s x) fun q => by rw [List.mem_singleton.mp q]; exact fun σ => jk
theorem S40.self {v : AV} (h : S40 v) {n : Nat} : Self (n + 1) σ v := by obtain ⟨s, rfl, _⟩ := h; exact jk
theorem BO (Y : PmOk P) {o0 o2 o3 o4 o5 o8 o9 o10 o11 o12 o13 o14 o15 o16 : Option AV} (h : ∀ σ, Q (.bool true) σ) : bT3 (wpF prg 13) [o0, some (Bt P), o2, o3, o4, o5, some (.int P.g), some (.ilist P.ts), o8, o9, o10, o11, o12, o13, o14, o15, o16] σ (kFn Q) (eFn E) := by
  unfold bT3
  simp only [ag, bh, fb, aQ, bd, aR, an, dh, e_c, ak, ap, am, cn, aE]
  refine Gh fun σ1 => ?_
  simp only [aL, az, e_c, aI, qp, beq_self_eq_true, cP, bI, au, aG, bJ, bE, aQ, bd, aR, an, br, ak, ap, am, aE]
  refine Ga Y fun σ2 => ?_
  simp only [aL, az, e_c, aI, qp, beq_self_eq_true, cP, bI, au, aG, bJ, bE, dC, bg, bc, aj, ag, bA, fb, aQ, bd, aR, an, br, ak, yx, dz, ap, am, dJ, aE]
  refine FX Y fun σ3 => ?_
  simp only [aL, az, e_c, aI, iO, beq_self_eq_true, bV, cJ, au, aG, bJ, bE, aQ, bd, aR, an, br, ak, yx, qR, dz, ap, kq, am, aE]
  intro a ha
  refine qe Y (v := .ilist P.ts) (u := .obj a) (vs := []) (ds := []) rfl (by show (match upd σ3 a (.list []) a with | some (.list xs) => some xs | _ => Option.none) = some []; rw [aq]) .nil fun c σ4 hc _ _ => ?_
  simp only [aL, az, dz, ap, kq, aI]
  intro b hb
  rw [CT (keep hc hb) (aq _ _ _)]
  simp only [bV, cJ, au, aG, bJ, gj, bE, dC, aN, aF, aO]
  exact h _
theorem Co (Y : PmOk P) {l1 l2 : Nat} {i : Nat} {L D : List AV} (H : Bh B P l1 l2 i σ M L D) (hd : l1 ≠ l2) (hi : i ≤ 30) {o0 o2 o3 o4 o5 o8 o11 o12 o13 o14 o15 o16 : Option AV} (h : ∀ σ, Q (.bool true) σ) : bT2 (wpF prg 13) [o0, some (Bt P), o2, o3, o4, o5, some (.int P.g), some (.ilist P.ts), o8, some (.obj l1), some (.obj l2), o11, o12, o13, o14, o15, o16] σ (kFn Q) (eFn E) := by
  unfold bT2
  simp only [ag, aH, dz, an, cH, qR, ak, ap, am, cz, vy (σ := σ) (v := .ilist P.ts) (ts := P.ts) rfl, yM, yz, Ao H.l1, dJ, bw, EC, aj, qt, lO, e_c, rW, Int.reduceAbs, Nat.reducePow, Nat.reduceLT, Int.reduceLE, and_true, nB, true_and]
  have z2 : D.length ≤ 1000000 := by rw [H.n2]; omega
  refine nF (fun _ ρ σ' => (σ' l1 = some (.list L) ∧ σ' l2 = some (.list D)) ∧ ∃ a15 a16, ρ = [o0, some (Bt P), o2, o3, o4, o5, some (.int P.g), some (.ilist P.ts), o8, some (.obj l1), some (.obj l2), o11, o12, o13, some (.ilist [.ilist P.ts, .ilist L]), a15, a16]) _ 0 ?_ ?_ _ _ ⟨⟨H.l1, H.l2⟩, _, _, rfl⟩
  · rintro j y hy ρ σ' R' ⟨⟨u1, u2⟩, a15, a16, rfl⟩ hR
    refine ⟨trivial, ?_⟩
    unfold lB2
    simp only [iq, Ep, ag, aH, aR, an, br, ak, yx, aX, AZ, aC, e_c, aD, i_l, Int.le_refl, Int.toNat_zero, List.getElem?_cons_zero, aM, Int.reduceLE, Int.toNat_one, List.getElem?_cons_succ, ap, am, aE, true_and]
    refine qe Y (v := .ilist P.ts) (u := .ilist L) (vs := L) (ds := D) rfl rfl H.p fun c σ2 hc nc k2 => ?_
    have v1 := (k2 l1 (dg u1)).trans u1
    have v2 := (k2 l2 (dg u2)).trans u2
    have c1 : l1 ≠ c := cT u1 nc
    have c2 : l2 ≠ c := cT u2 nc
    simp only [bw, Eg, aj, ag, bh, fb, aQ, bQ, DN, bN, Cz hc, cm, cP, aG, bJ, fc, dr, bE, bd, aL, az, yf, aI, Dm hc v2 (fun x hx => by obtain ⟨s, rfl⟩ := H.p.strs x hx; exact jk), bI, au, AZ, dz, an, qR, ak, yz, ap, am, dJ, DJ v1 (fun x hx => (Y.t x hx).self) (fun x hx => H.s x hx σ2), dC, bg, bc, bX, lM, fH (rc := rcL) (v := .obj c) (σ := σ2) ⟨_, _, rfl, hc⟩, e_c, eE, dy hc z2, cA]
    exact hR _ _ ⟨⟨(ai _ _ c1).trans v1, (ai _ _ c2).trans v2⟩, _, _, rfl⟩
  · rintro ρ σ' ⟨⟨u1, u2⟩, a15, a16, rfl⟩
    exact ⟨trivial, BO Y h⟩
theorem zr {w r m b x : Int} (hb : Bnd w r m b) : w + r + (if b > m then b else m) + 3 ≠ 0 ∧ 0 < w + r + (if b > m then b else m) + 3 ∧ (0 ≤ x → x < w + r + (if b > m then b else m) + 3 → 1 ≤ 1 + x ∧ 1 + x ≤ 200) := by
  obtain ⟨h1, h2, h3, h4⟩ := hb
  split <;> exact ⟨by omega, by omega, fun _ _ => by omega⟩
theorem z13 {x : Int} (h0 : 0 ≤ x) (h1 : x < 13) : x ≤ 100 ∧ 1 ≤ 1 + x ∧ 1 + x ≤ 100 ∧ x.toNat ≤ 100 := by omega
theorem BY (ns : List Int) (hn : ns.length ≤ 63) (h : ∀ σ, Q (.bool true) σ) : wpF prg 14 47 [.ilist (ns.map .int)] (fun _ => Option.none) Q E := by
  refine aT (fi := fn47) rfl rfl ?_
  rw [show fn47.body (wpF prg 13) = (ad (aw 1 (aZ (wpF prg 13) 36 (aa (ac 0) ar))) (ad (qD [2, 3, 4, 5] (ac 1)) (ad (aw 6 (vO2 bZ (vC (.int 1)) (vO2 bK (aZ (wpF prg 13) 35 (aa (aZ (wpF prg 13) 34 (aa (ac 0) (aa (vC (.int 2)) ar))) (aa (vC (.int 2)) ar))) (vO2 bZ (vO2 bZ (vO2 bZ (ac 2) (ac 3)) (vON jK (aa (ac 4) (aa (ac 5) ar)))) (vC (.int 3)))))) (ad (aw 7 (aZ (wpF prg 13) 37 (aa (aZ (wpF prg 13) 34 (aa (ac 0) (aa (vC (.int 3)) ar))) (aa (vO2 bK (aZ (wpF prg 13) 34 (aa (ac 0) (aa (vC (.int 4)) ar))) (vC (.int 13))) (aa (vO2 bZ (vC (.int 1)) (vO2 bK (vO2 bC (aZ (wpF prg 13) 34 (aa (ac 0) (aa (vC (.int 4)) ar))) (vC (.int 13))) (vC (.int 13)))) ar))))) (ad (aw 8 (aZ (wpF prg 13) 38 (aa (ac 1) (aa (ac 6) (aa (ac 7) ar))))) (ad (aw 9 (cU true ar)) (ad (aw 10 (cU true ar)) (ad (yg 11 (vO1 (oSl false 5 35) (ac 0)) (lB (wpF prg 13))) (bT2 (wpF prg 13)))))))))) from rfl]
  simp only [List.map_cons, List.map_nil, fn47, Nat.reduceSub, List.replicate_succ, List.replicate_zero, List.cons_append, List.nil_append, ag, aH, aR, an, aP, ak, ap, am, aE]
  refine ww fun w r m b hb => ?_
  simp only [bw, pP, aj, ag, qr, br, fK (xs := [_, _, _, _]) (is := [_, _, _, _]) rfl, dj, lW, mZ, nD, oq, du, aH, aX, e_c, aC, aR, an, aP, ak, ap, am, aE]
  refine pW 2 rfl ?_
  simp only [ak, an, e_c, ap, am, aE]
  refine lC (by decide) ?_
  generalize (_ : Int).fmod 2147483647 = x
  have zz := zr (x := x.fmod (w + r + (if b > m then b else m) + 3)) hb
  have g0 := bL (a := x) zz.2.1
  have g1 := bW (a := x) zz.2.1
  have hg := zz.2.2 g0 g1
  simp only [aC, aX, cr, dO, aD, cf, cH, an, gq, ak, lD, ap, am, cz, jI, e_c, bR, ne_eq, zz.1, not_false_eq_true, bw, zm, aj, ag, aH, aR, aP, aE, true_and]
  generalize 1 + x.fmod (w + r + (if b > m then b else m) + 3) = g at hg ⊢
  refine pW 3 rfl ?_
  simp only [ak, an, aX, aR, aP, e_c, ap, am, aE]
  refine pW 4 rfl ?_
  simp only [aC, e_c, aD, bR, ne_eq, Int.reduceEq, not_false_eq_true, ak, an, aX, aR, aP, ap, am, aE, true_and]
  refine pW 4 rfl ?_
  simp only [aC, e_c, aD, bS, ne_eq, Int.reduceEq, not_false_eq_true, Int.reduceAbs, Nat.reduceLT, and_true, bR, cf, ak, ap, am, aE, true_and]
  have m1 := z13 (bL (a := ns.getD 4 0) (b := 13) (by decide)) (bW (a := ns.getD 4 0) (b := 13) (by decide))
  have m2 := z13 (bL (a := (ns.getD 4 0).fdiv 13) (b := 13) (by decide)) (bW (a := (ns.getD 4 0).fdiv 13) (b := 13) (by decide))
  refine yb m2.2.1 m2.2.2.1 (bL (by decide)) m1.1 fun ts tl ht => ?_
  have Y : PmOk ⟨w, r, m, b, g, ts⟩ := ⟨hb, hg, by show ts.length ≤ 100; rw [tl]; exact m1.2.2.2, ht⟩
  simp only [bw, CQ, aj, ag, aH, aR, an, br, ak, yx, qR, ap, am, aE]
  refine xO (P := ⟨w, r, m, b, g, ts⟩) fun B σ1 X L1 _ _ => ?_
  simp only [bw, AE, aj, ag, aH, dz, ap, kq, Em, Eu, wW, bQ, aP, bN, Fm, Bi]
  intro l1 h1
  have L2 := L1.fresh (x := .list []) h1
  have e1 := aq σ1 l1 (.list [])
  generalize upd σ1 l1 (.list []) = σ2 at L2 e1 ⊢
  intro l2 h2
  have L3 := L2.fresh (x := .list []) h2
  have f1 := keep (x := .list []) e1 h2
  have f2 := aq σ2 l2 (.list [])
  have d12 := cT e1 h2
  have o1 : l1 ∉ B.all := fun q => by
    have : σ1 l1 ≠ Option.none := by
      unfold LA.all at q
      simp only [List.mem_cons, List.not_mem_nil, or_false] at q
      rcases q with q | q | q | q | q
      · rw [q]; exact dg L1.t
      · rw [q]; exact dg L1.o
      · rw [q]; exact dg L1.e
      · rw [q]; exact dg L1.l
      · rw [q]; exact dg L1.a
    exact this h1
  have o2 : l2 ∉ B.all := fun q => by
    have : σ2 l2 ≠ Option.none := by
      unfold LA.all at q
      simp only [List.mem_cons, List.not_mem_nil, or_false] at q
      rcases q with q | q | q | q | q
      · rw [q]; exact dg L2.t
      · rw [q]; exact dg L2.o
      · rw [q]; exact dg L2.e
      · rw [q]; exact dg L2.l
      · rw [q]; exact dg L2.a
    exact this h2
  generalize upd σ2 l2 (.list []) = σ3 at L3 f1 f2 ⊢
  have hl30 : (List.drop 5 (List.take 35 (ns.map AV.int))).length ≤ 30 := by rw [List.length_drop, List.length_take]; omega
  refine nF (fun i ρ σ' => ∃ M L D x11 x12 x13, Bh B ⟨w, r, m, b, g, ts⟩ l1 l2 i σ' M L D ∧ ρ = [some (.ilist (ns.map .int)), some (.tup [.int w, .int r, .int m, .int b]), some (.int w), some (.int r), some (.int m), some (.int b), some (.int g), some (.ilist ts), some (.obj B.t), some (.obj l1), some (.obj l2), x11, x12, x13, Option.none, Option.none, Option.none]) _ 0 ?_ ?_ _ _ ⟨_, _, _, _, _, _, ⟨L3, .nil, ⟨Int.le_refl 0, Int.le_refl 0, Int.natCast_nonneg _, rfl, Nat.le_refl _, Nat.le_refl _, Nat.le_refl _, (fun _ q => nomatch q), (fun _ q => nomatch q)⟩, f1, f2, rfl, rfl, (fun _ q => nomatch q)⟩, rfl⟩
  · rintro i y hy ρ σ' R' ⟨M, L, D, x11, x12, x13, H, rfl⟩ hR
    refine ⟨trivial, ?_⟩
    obtain ⟨c, rfl⟩ : ∃ c, y = .int c := by
      have := List.mem_of_mem_take (List.mem_of_mem_drop (List.mem_of_getElem? hy))
      obtain ⟨c, _, e⟩ := List.mem_map.mp this
      exact ⟨c, e.symm⟩
    have hi := (List.getElem?_eq_some_iff.mp hy).1
    rw [Nat.zero_add] at H hR
    exact Aw (d := 8) X Y ⟨o1, o2, d12⟩ (Nat.lt_of_lt_of_le hi hl30) H fun M' L' D' σ'' p12 p13 H' => hR _ _ ⟨M', L', D', _, _, _, H', rfl⟩
  · rintro ρ σ' ⟨M, L, D, x11, x12, x13, H, rfl⟩
    refine ⟨trivial, ?_⟩
    simp only [aj]
    exact Co Y H d12 (by rw [Nat.zero_add]; exact hl30) h
end Ap.L13
end
section
namespace Ap.L13
open PySem PySem.W
noncomputable def fa : List Addr := [21, 125, 132, 139, 146, 153, 167, 174, 181, 188, 195, 216, 223, 230, 237, 258, 265, 272, 279, 284, 299, 306, 320, 327, 334, 341, 348, 353, 360, 367, 382, 389, 396, 401, 408, 415, 429, 434, 441, 448, 455, 462, 469, 476, 483, 490, 497, 504]
noncomputable def ca : List Addr := [31, 44, 56, 68, 80, 92, 104, 116, 198, 240, 287, 370]
theorem f0 (p : Params) : FnK (K p) 21 fn0 ft0 := ⟨by kernel_rfl, by kernel_rfl, by kernel_rfl, by kernel_rfl, by kernel_rfl, by kernel_rfl, by kernel_rfl, by kernel_rfl, by kernel_rfl, dq fun a => by kernel_rfl⟩
theorem f1 (p : Params) : FnK (K p) 125 fn1 ft1 := ⟨by kernel_rfl, by kernel_rfl, by kernel_rfl, by kernel_rfl, by kernel_rfl, by kernel_rfl, by kernel_rfl, by kernel_rfl, by kernel_rfl, nQ fun a b c => by kernel_rfl⟩
theorem f2 (p : Params) : FnK (K p) 132 fn2 ft2 := ⟨by kernel_rfl, by kernel_rfl, by kernel_rfl, by kernel_rfl, by kernel_rfl, by kernel_rfl, by kernel_rfl, by kernel_rfl, by kernel_rfl, dq fun a => by kernel_rfl⟩
theorem f3 (p : Params) : FnK (K p) 139 fn3 ft3 := ⟨by kernel_rfl, by kernel_rfl, by kernel_rfl, by kernel_rfl, by kernel_rfl, by kernel_rfl, by kernel_rfl, by kernel_rfl, by kernel_rfl, dq fun a => by kernel_rfl⟩
theorem f4 (p : Params) : FnK (K p) 146 fn4 ft4 := ⟨by kernel_rfl, by kernel_rfl, by kernel_rfl, by kernel_rfl, by kernel_rfl, by kernel_rfl, by kernel_rfl, by kernel_rfl, by kernel_rfl, dq fun a => by kernel_rfl⟩
theorem f5 (p : Params) : FnK (K p) 153 fn5 ft5 := ⟨by kernel_rfl, by kernel_rfl, by kernel_rfl, by kernel_rfl, by kernel_rfl, by kernel_rfl, by kernel_rfl, by kernel_rfl, by kernel_rfl, dq fun a => by kernel_rfl⟩
theorem f6 (p : Params) : FnK (K p) 167 fn6 ft6 := ⟨by kernel_rfl, by kernel_rfl, by kernel_rfl, by kernel_rfl, by kernel_rfl, by kernel_rfl, by kernel_rfl, by kernel_rfl, by kernel_rfl, fx fun a b => by kernel_rfl⟩
theorem f7 (p : Params) : FnK (K p) 174 fn7 ft7 := ⟨by kernel_rfl, by kernel_rfl, by kernel_rfl, by kernel_rfl, by kernel_rfl, by kernel_rfl, by kernel_rfl, by kernel_rfl, by kernel_rfl, dq fun a => by kernel_rfl⟩
theorem f8 (p : Params) : FnK (K p) 181 fn8 ft8 := ⟨by kernel_rfl, by kernel_rfl, by kernel_rfl, by kernel_rfl, by kernel_rfl, by kernel_rfl, by kernel_rfl, by kernel_rfl, by kernel_rfl, fx fun a b => by kernel_rfl⟩
theorem f9 (p : Params) : FnK (K p) 188 fn9 ft9 := ⟨by kernel_rfl, by kernel_rfl, by kernel_rfl, by kernel_rfl, by kernel_rfl, by kernel_rfl, by kernel_rfl, by kernel_rfl, by kernel_rfl, dq fun a => by kernel_rfl⟩
theorem f10 (p : Params) : FnK (K p) 195 wc ft10 := ⟨by kernel_rfl, by kernel_rfl, by kernel_rfl, by kernel_rfl, by kernel_rfl, by kernel_rfl, by kernel_rfl, by kernel_rfl, by kernel_rfl, fx fun a b => by kernel_rfl⟩
theorem f11 (p : Params) : FnK (K p) 216 zi ft11 := ⟨by kernel_rfl, by kernel_rfl, by kernel_rfl, by kernel_rfl, by kernel_rfl, by kernel_rfl, by kernel_rfl, by kernel_rfl, by kernel_rfl, xq fun a b c d => by kernel_rfl⟩
theorem f12 (p : Params) : FnK (K p) 223 zM ft12 := ⟨by kernel_rfl, by kernel_rfl, by kernel_rfl, by kernel_rfl, by kernel_rfl, by kernel_rfl, by kernel_rfl, by kernel_rfl, by kernel_rfl, dq fun a => by kernel_rfl⟩
theorem f13 (p : Params) : FnK (K p) 230 AG ft13 := ⟨by kernel_rfl, by kernel_rfl, by kernel_rfl, by kernel_rfl, by kernel_rfl, by kernel_rfl, by kernel_rfl, by kernel_rfl, by kernel_rfl, fx fun a b => by kernel_rfl⟩
theorem f14 (p : Params) : FnK (K p) 237 Ac ft14 := ⟨by kernel_rfl, by kernel_rfl, by kernel_rfl, by kernel_rfl, by kernel_rfl, by kernel_rfl, by kernel_rfl, by kernel_rfl, by kernel_rfl, fx fun a b => by kernel_rfl⟩
theorem f15 (p : Params) : FnK (K p) 258 zD ft15 := ⟨by kernel_rfl, by kernel_rfl, by kernel_rfl, by kernel_rfl, by kernel_rfl, by kernel_rfl, by kernel_rfl, by kernel_rfl, by kernel_rfl, nQ fun a b c => by kernel_rfl⟩
theorem f16 (p : Params) : FnK (K p) 265 zP ft16 := ⟨by kernel_rfl, by kernel_rfl, by kernel_rfl, by kernel_rfl, by kernel_rfl, by kernel_rfl, by kernel_rfl, by kernel_rfl, by kernel_rfl, nQ fun a b c => by kernel_rfl⟩
theorem f17 (p : Params) : FnK (K p) 272 Dt ft17 := ⟨by kernel_rfl, by kernel_rfl, by kernel_rfl, by kernel_rfl, by kernel_rfl, by kernel_rfl, by kernel_rfl, by kernel_rfl, by kernel_rfl, dq fun a => by kernel_rfl⟩
theorem f18 (p : Params) : FnK (K p) 279 Db ft18 := ⟨by kernel_rfl, by kernel_rfl, by kernel_rfl, by kernel_rfl, by kernel_rfl, by kernel_rfl, by kernel_rfl, by kernel_rfl, by kernel_rfl, dq fun a => by kernel_rfl⟩
theorem f19 (p : Params) : FnK (K p) 284 El ft19 := ⟨by kernel_rfl, by kernel_rfl, by kernel_rfl, by kernel_rfl, by kernel_rfl, by kernel_rfl, by kernel_rfl, by kernel_rfl, by kernel_rfl, dq fun a => by kernel_rfl⟩
theorem f20 (p : Params) : FnK (K p) 299 AH ft20 := ⟨by kernel_rfl, by kernel_rfl, by kernel_rfl, by kernel_rfl, by kernel_rfl, by kernel_rfl, by kernel_rfl, by kernel_rfl, by kernel_rfl, dq fun a => by kernel_rfl⟩
theorem f21 (p : Params) : FnK (K p) 306 Ak ft21 := ⟨by kernel_rfl, by kernel_rfl, by kernel_rfl, by kernel_rfl, by kernel_rfl, by kernel_rfl, by kernel_rfl, by kernel_rfl, by kernel_rfl, dq fun a => by kernel_rfl⟩
theorem f22 (p : Params) : FnK (K p) 320 pI ft22 := ⟨by kernel_rfl, by kernel_rfl, by kernel_rfl, by kernel_rfl, by kernel_rfl, by kernel_rfl, by kernel_rfl, by kernel_rfl, by kernel_rfl, xq fun a b c d => by kernel_rfl⟩
theorem f23 (p : Params) : FnK (K p) 327 lI ft23 := ⟨by kernel_rfl, by kernel_rfl, by kernel_rfl, by kernel_rfl, by kernel_rfl, by kernel_rfl, by kernel_rfl, by kernel_rfl, by kernel_rfl, fx fun a b => by kernel_rfl⟩
theorem f24 (p : Params) : FnK (K p) 334 DU ft24 := ⟨by kernel_rfl, by kernel_rfl, by kernel_rfl, by kernel_rfl, by kernel_rfl, by kernel_rfl, by kernel_rfl, by kernel_rfl, by kernel_rfl, dq fun a => by kernel_rfl⟩
theorem f25 (p : Params) : FnK (K p) 341 DV ft25 := ⟨by kernel_rfl, by kernel_rfl, by kernel_rfl, by kernel_rfl, by kernel_rfl, by kernel_rfl, by kernel_rfl, by kernel_rfl, by kernel_rfl, dq fun a => by kernel_rfl⟩
theorem f26 (p : Params) : FnK (K p) 348 Do ft26 := ⟨by kernel_rfl, by kernel_rfl, by kernel_rfl, by kernel_rfl, by kernel_rfl, by kernel_rfl, by kernel_rfl, by kernel_rfl, by kernel_rfl, dq fun a => by kernel_rfl⟩
theorem f27 (p : Params) : FnK (K p) 353 EP ft27 := ⟨by kernel_rfl, by kernel_rfl, by kernel_rfl, by kernel_rfl, by kernel_rfl, by kernel_rfl, by kernel_rfl, by kernel_rfl, by kernel_rfl, dq fun a => by kernel_rfl⟩
theorem f28 (p : Params) : FnK (K p) 360 DI ft28 := ⟨by kernel_rfl, by kernel_rfl, by kernel_rfl, by kernel_rfl, by kernel_rfl, by kernel_rfl, by kernel_rfl, by kernel_rfl, by kernel_rfl, dq fun a => by kernel_rfl⟩
theorem f29 (p : Params) : FnK (K p) 367 EU ft29 := ⟨by kernel_rfl, by kernel_rfl, by kernel_rfl, by kernel_rfl, by kernel_rfl, by kernel_rfl, by kernel_rfl, by kernel_rfl, by kernel_rfl, dq fun a => by kernel_rfl⟩
theorem f30 (p : Params) : FnK (K p) 382 sw ft30 := ⟨by kernel_rfl, by kernel_rfl, by kernel_rfl, by kernel_rfl, by kernel_rfl, by kernel_rfl, by kernel_rfl, by kernel_rfl, by kernel_rfl, dq fun a => by kernel_rfl⟩
theorem f31 (p : Params) : FnK (K p) 389 wk ft31 := ⟨by kernel_rfl, by kernel_rfl, by kernel_rfl, by kernel_rfl, by kernel_rfl, by kernel_rfl, by kernel_rfl, by kernel_rfl, by kernel_rfl, dq fun a => by kernel_rfl⟩
theorem f32 (p : Params) : FnK (K p) 396 fn32 ft32 := ⟨by kernel_rfl, by kernel_rfl, by kernel_rfl, by kernel_rfl, by kernel_rfl, by kernel_rfl, by kernel_rfl, by kernel_rfl, by kernel_rfl, fx fun a b => by kernel_rfl⟩
theorem f33 (p : Params) : FnK (K p) 401 pO ft33 := ⟨by kernel_rfl, by kernel_rfl, by kernel_rfl, by kernel_rfl, by kernel_rfl, by kernel_rfl, by kernel_rfl, by kernel_rfl, by kernel_rfl, xq fun a b c d => by kernel_rfl⟩
theorem f34 (p : Params) : FnK (K p) 408 zk ft34 := ⟨by kernel_rfl, by kernel_rfl, by kernel_rfl, by kernel_rfl, by kernel_rfl, by kernel_rfl, by kernel_rfl, by kernel_rfl, by kernel_rfl, fx fun a b => by kernel_rfl⟩
theorem f35 (p : Params) : FnK (K p) 415 Aj ft35 := ⟨by kernel_rfl, by kernel_rfl, by kernel_rfl, by kernel_rfl, by kernel_rfl, by kernel_rfl, by kernel_rfl, by kernel_rfl, by kernel_rfl, fx fun a b => by kernel_rfl⟩
theorem f36 (p : Params) : FnK (K p) 429 fn36 ft36 := ⟨by kernel_rfl, by kernel_rfl, by kernel_rfl, by kernel_rfl, by kernel_rfl, by kernel_rfl, by kernel_rfl, by kernel_rfl, by kernel_rfl, dq fun a => by kernel_rfl⟩
theorem f37 (p : Params) : FnK (K p) 434 Ad ft37 := ⟨by kernel_rfl, by kernel_rfl, by kernel_rfl, by kernel_rfl, by kernel_rfl, by kernel_rfl, by kernel_rfl, by kernel_rfl, by kernel_rfl, nQ fun a b c => by kernel_rfl⟩
theorem f38 (p : Params) : FnK (K p) 441 Az ft38 := ⟨by kernel_rfl, by kernel_rfl, by kernel_rfl, by kernel_rfl, by kernel_rfl, by kernel_rfl, by kernel_rfl, by kernel_rfl, by kernel_rfl, nQ fun a b c => by kernel_rfl⟩
theorem f39 (p : Params) : FnK (K p) 448 AA ft39 := ⟨by kernel_rfl, by kernel_rfl, by kernel_rfl, by kernel_rfl, by kernel_rfl, by kernel_rfl, by kernel_rfl, by kernel_rfl, by kernel_rfl, fx fun a b => by kernel_rfl⟩
theorem f40 (p : Params) : FnK (K p) 455 zh ft40 := ⟨by kernel_rfl, by kernel_rfl, by kernel_rfl, by kernel_rfl, by kernel_rfl, by kernel_rfl, by kernel_rfl, by kernel_rfl, by kernel_rfl, nQ fun a b c => by kernel_rfl⟩
theorem f41 (p : Params) : FnK (K p) 462 wx ft41 := ⟨by kernel_rfl, by kernel_rfl, by kernel_rfl, by kernel_rfl, by kernel_rfl, by kernel_rfl, by kernel_rfl, by kernel_rfl, by kernel_rfl, fx fun a b => by kernel_rfl⟩
theorem f42 (p : Params) : FnK (K p) 469 wf ft42 := ⟨by kernel_rfl, by kernel_rfl, by kernel_rfl, by kernel_rfl, by kernel_rfl, by kernel_rfl, by kernel_rfl, by kernel_rfl, by kernel_rfl, fx fun a b => by kernel_rfl⟩
theorem f43 (p : Params) : FnK (K p) 476 wA ft43 := ⟨by kernel_rfl, by kernel_rfl, by kernel_rfl, by kernel_rfl, by kernel_rfl, by kernel_rfl, by kernel_rfl, by kernel_rfl, by kernel_rfl, fx fun a b => by kernel_rfl⟩
theorem f44 (p : Params) : FnK (K p) 483 yX ft44 := ⟨by kernel_rfl, by kernel_rfl, by kernel_rfl, by kernel_rfl, by kernel_rfl, by kernel_rfl, by kernel_rfl, by kernel_rfl, by kernel_rfl, fx fun a b => by kernel_rfl⟩
theorem f45 (p : Params) : FnK (K p) 490 fn45 ft45 := ⟨by kernel_rfl, by kernel_rfl, by kernel_rfl, by kernel_rfl, by kernel_rfl, by kernel_rfl, by kernel_rfl, by kernel_rfl, by kernel_rfl, fx fun a b => by kernel_rfl⟩
theorem f46 (p : Params) : FnK (K p) 497 zf ft46 := ⟨by kernel_rfl, by kernel_rfl, by kernel_rfl, by kernel_rfl, by kernel_rfl, by kernel_rfl, by kernel_rfl, by kernel_rfl, by kernel_rfl, nQ fun a b c => by kernel_rfl⟩
theorem f47 (p : Params) : FnK (K p) 504 fn47 ft47 := ⟨by kernel_rfl, by kernel_rfl, by kernel_rfl, by kernel_rfl, by kernel_rfl, by kernel_rfl, by kernel_rfl, by kernel_rfl, by kernel_rfl, dq fun a => by kernel_rfl⟩
theorem x0 (p : Params) : ExcK (K p) 31 := ⟨by kernel_rfl, ⟨by kernel_rfl, by kernel_rfl⟩, by kernel_rfl, .inl (by kernel_rfl), by kernel_rfl, by kernel_rfl, by kernel_rfl⟩
theorem x1 (p : Params) : ExcK (K p) 44 := ⟨by kernel_rfl, ⟨by kernel_rfl, by kernel_rfl⟩, by kernel_rfl, .inr ⟨31, by kernel_rfl, by kernel_rfl, ⟨by kernel_rfl, by kernel_rfl⟩, by kernel_rfl⟩, by kernel_rfl, by kernel_rfl, by kernel_rfl⟩
theorem x2 (p : Params) : ExcK (K p) 56 := ⟨by kernel_rfl, ⟨by kernel_rfl, by kernel_rfl⟩, by kernel_rfl, .inr ⟨31, by kernel_rfl, by kernel_rfl, ⟨by kernel_rfl, by kernel_rfl⟩, by kernel_rfl⟩, by kernel_rfl, by kernel_rfl, by kernel_rfl⟩
theorem x3 (p : Params) : ExcK (K p) 68 := ⟨by kernel_rfl, ⟨by kernel_rfl, by kernel_rfl⟩, by kernel_rfl, .inr ⟨31, by kernel_rfl, by kernel_rfl, ⟨by kernel_rfl, by kernel_rfl⟩, by kernel_rfl⟩, by kernel_rfl, by kernel_rfl, by kernel_rfl⟩
theorem x4 (p : Params) : ExcK (K p) 80 := ⟨by kernel_rfl, ⟨by kernel_rfl, by kernel_rfl⟩, by kernel_rfl, .inr ⟨31, by kernel_rfl, by kernel_rfl, ⟨by kernel_rfl, by kernel_rfl⟩, by kernel_rfl⟩, by kernel_rfl, by kernel_rfl, by kernel_rfl⟩
theorem x5 (p : Params) : ExcK (K p) 92 := ⟨by kernel_rfl, ⟨by kernel_rfl, by kernel_rfl⟩, by kernel_rfl, .inr ⟨31, by kernel_rfl, by kernel_rfl, ⟨by kernel_rfl, by kernel_rfl⟩, by kernel_rfl⟩, by kernel_rfl, by kernel_rfl, by kernel_rfl⟩
theorem x6 (p : Params) : ExcK (K p) 104 := ⟨by kernel_rfl, ⟨by kernel_rfl, by kernel_rfl⟩, by kernel_rfl, .inr ⟨31, by kernel_rfl, by kernel_rfl, ⟨by kernel_rfl, by kernel_rfl⟩, by kernel_rfl⟩, by kernel_rfl, by kernel_rfl, by kernel_rfl⟩
theorem x7 (p : Params) : ExcK (K p) 116 := ⟨by kernel_rfl, ⟨by kernel_rfl, by kernel_rfl⟩, by kernel_rfl, .inr ⟨31, by kernel_rfl, by kernel_rfl, ⟨by kernel_rfl, by kernel_rfl⟩, by kernel_rfl⟩, by kernel_rfl, by kernel_rfl, by kernel_rfl⟩
theorem c8 (p : Params) : ClsK (K p) tabs fa 198 ⟨some 6, [(25, 7), (22, 8), (19, 9), (23, 10)], []⟩ := ⟨by kernel_rfl, ⟨by kernel_rfl, by kernel_rfl⟩, by kernel_rfl, by kernel_rfl, by kernel_rfl, fun f h => by cases h; kernel_rfl, by kernel_rfl, by kernel_rfl⟩
theorem c9 (p : Params) : ClsK (K p) tabs fa 240 ⟨some 11, [(24, 12), (21, 13), (17, 14)], []⟩ := ⟨by kernel_rfl, ⟨by kernel_rfl, by kernel_rfl⟩, by kernel_rfl, by kernel_rfl, by kernel_rfl, fun f h => by cases h; kernel_rfl, by kernel_rfl, by kernel_rfl⟩
theorem c10 (p : Params) : ClsK (K p) tabs fa 287 ⟨some 15, [(26, 16), (33, 17), (18, 18), (30, 19)], []⟩ := ⟨by kernel_rfl, ⟨by kernel_rfl, by kernel_rfl⟩, by kernel_rfl, by kernel_rfl, by kernel_rfl, fun f h => by cases h; kernel_rfl, by kernel_rfl, by kernel_rfl⟩
theorem c11 (p : Params) : ClsK (K p) tabs fa 370 ⟨some 22, [(20, 23), (32, 24), (29, 25), (31, 26), (27, 27), (34, 28), (28, 29)], []⟩ := ⟨by kernel_rfl, ⟨by kernel_rfl, by kernel_rfl⟩, by kernel_rfl, by kernel_rfl, by kernel_rfl, fun f h => by cases h; kernel_rfl, by kernel_rfl, by kernel_rfl⟩
theorem kd (p : Params) : KDat (K p) tabs prg fa ca where
  g := ⟨by kernel_rfl, by kernel_rfl⟩
  fnN := by kernel_rfl
  clsN := by kernel_rfl
  bltN := by kernel_rfl
  inj := by decide +kernel
  ne := by decide +kernel
  objN := by kernel_rfl
  lens := ⟨rfl, rfl, rfl, rfl⟩
  ics := AllI.at0 (P := fun c (ci : ClsI) => ci.init ≠ Option.none → ClsK (K p) tabs fa (ca.getD c 0) ci) (l := clss) ⟨(fun h => absurd rfl h), (fun h => absurd rfl h), (fun h => absurd rfl h), (fun h => absurd rfl h), (fun h => absurd rfl h), (fun h => absurd rfl h), (fun h => absurd rfl h), (fun h => absurd rfl h), fun _ => c8 p, fun _ => c9 p, fun _ => c10 p, fun _ => c11 p, trivial⟩
  xcs := AllI.at0 (P := fun c (ci : ClsI) => ci.init = Option.none → ExcK (K p) (ca.getD c 0)) (l := clss) ⟨fun _ => x0 p, fun _ => x1 p, fun _ => x2 p, fun _ => x3 p, fun _ => x4 p, fun _ => x5 p, fun _ => x6 p, fun _ => x7 p, (fun h => by cases h), (fun h => by cases h), (fun h => by cases h), (fun h => by cases h), trivial⟩
  xps := by kernel_rfl
  fns := fun f fi ft h1 h2 => AllI.at0 (P := fun f fi => ∀ ft, tabs.fts[f]? = some ft → FnK (K p) (fa.getD f 0) fi ft) (l := prg.fns) ⟨fun ft h => by cases h; exact f0 p, fun ft h => by cases h; exact f1 p, fun ft h => by cases h; exact f2 p, fun ft h => by cases h; exact f3 p, fun ft h => by cases h; exact f4 p, fun ft h => by cases h; exact f5 p, fun ft h => by cases h; exact f6 p, fun ft h => by cases h; exact f7 p, fun ft h => by cases h; exact f8 p, fun ft h => by cases h; exact f9 p, fun ft h => by cases h; exact f10 p, fun ft h => by cases h; exact f11 p, fun ft h => by cases h; exact f12 p, fun ft h => by cases h; exact f13 p, fun ft h => by cases h; exact f14 p, fun ft h => by cases h; exact f15 p, fun ft h => by cases h; exact f16 p, fun ft h => by cases h; exact f17 p, fun ft h => by cases h; exact f18 p, fun ft h => by cases h; exact f19 p, fun ft h => by cases h; exact f20 p, fun ft h => by cases h; exact f21 p, fun ft h => by cases h; exact f22 p, fun ft h => by cases h; exact f23 p, fun ft h => by cases h; exact f24 p, fun ft h => by cases h; exact f25 p, fun ft h => by cases h; exact f26 p, fun ft h => by cases h; exact f27 p, fun ft h => by cases h; exact f28 p, fun ft h => by cases h; exact f29 p, fun ft h => by cases h; exact f30 p, fun ft h => by cases h; exact f31 p, fun ft h => by cases h; exact f32 p, fun ft h => by cases h; exact f33 p, fun ft h => by cases h; exact f34 p, fun ft h => by cases h; exact f35 p, fun ft h => by cases h; exact f36 p, fun ft h => by cases h; exact f37 p, fun ft h => by cases h; exact f38 p, fun ft h => by cases h; exact f39 p, fun ft h => by cases h; exact f40 p, fun ft h => by cases h; exact f41 p, fun ft h => by cases h; exact f42 p, fun ft h => by cases h; exact f43 p, fun ft h => by cases h; exact f44 p, fun ft h => by cases h; exact f45 p, fun ft h => by cases h; exact f46 p, fun ft h => by cases h; exact f47 p, trivial⟩ f fi h1 ft h2
  sh := by kernel_rfl
theorem bs (C : Cx) (X : CxOk C tabs prg) (Y : GlobOk C globs ∧ GDs C gds ∧ GVs C gvs) (F : Calls) (d : Nat) (hF : bT C prg d F) (f : Nat) (fi : FnI) (ft : FnT) (h1 : prg.fns[f]? = some fi) (h2 : tabs.fts[f]? = some ft) : BothB C d ft.sc ft.nms fi.quiet (fi.body F) ft.body :=
  AllI.at0 (P := fun f fi => ∀ ft, tabs.fts[f]? = some ft → BothB C d ft.sc ft.nms fi.quiet (fi.body F) ft.body) (l := prg.fns) ⟨fun ft h => by cases h; exact b0 X Y.1 Y.2.1 Y.2.2 hF, fun ft h => by cases h; exact b1 X Y.1 Y.2.1 Y.2.2 hF, fun ft h => by cases h; exact b2 X Y.1 Y.2.1 Y.2.2 hF, fun ft h => by cases h; exact b3 X Y.1 Y.2.1 Y.2.2 hF, fun ft h => by cases h; exact b4 X Y.1 Y.2.1 Y.2.2 hF, fun ft h => by cases h; exact b5 X Y.1 Y.2.1 Y.2.2 hF, fun ft h => by cases h; exact b6 X Y.1 Y.2.1 Y.2.2 hF, fun ft h => by cases h; exact b7 X Y.1 Y.2.1 Y.2.2 hF, fun ft h => by cases h; exact b8 X Y.1 Y.2.1 Y.2.2 hF, fun ft h => by cases h; exact b9 X Y.1 Y.2.1 Y.2.2 hF, fun ft h => by cases h; exact b10 X Y.1 Y.2.1 Y.2.2 hF, fun ft h => by cases h; exact b11 X Y.1 Y.2.1 Y.2.2 hF, fun ft h => by cases h; exact b12 X Y.1 Y.2.1 Y.2.2 hF, fun ft h => by cases h; exact b13 X Y.1 Y.2.1 Y.2.2 hF, fun ft h => by cases h; exact b14 X Y.1 Y.2.1 Y.2.2 hF, fun ft h => by cases h; exact b15 X Y.1 Y.2.1 Y.2.2 hF, fun ft h => by cases h; exact b16 X Y.1 Y.2.1 Y.2.2 hF, fun ft h => by cases h; exact b17 X Y.1 Y.2.1 Y.2.2 hF, fun ft h => by cases h; exact b18 X Y.1 Y.2.1 Y.2.2 hF, fun ft h => by cases h; exact b19 X Y.1 Y.2.1 Y.2.2 hF, fun ft h => by cases h; exact b20 X Y.1 Y.2.1 Y.2.2 hF, fun ft h => by cases h; exact b21 X Y.1 Y.2.1 Y.2.2 hF, fun ft h => by cases h; exact b22 X Y.1 Y.2.1 Y.2.2 hF, fun ft h => by cases h; exact b23 X Y.1 Y.2.1 Y.2.2 hF, fun ft h => by cases h; exact b24 X Y.1 Y.2.1 Y.2.2 hF, fun ft h => by cases h; exact b25 X Y.1 Y.2.1 Y.2.2 hF, fun ft h => by cases h; exact b26 X Y.1 Y.2.1 Y.2.2 hF, fun ft h => by cases h; exact b27 X Y.1 Y.2.1 Y.2.2 hF, fun ft h => by cases h; exact b28 X Y.1 Y.2.1 Y.2.2 hF, fun ft h => by cases h; exact b29 X Y.1 Y.2.1 Y.2.2 hF, fun ft h => by cases h; exact b30 X Y.1 Y.2.1 Y.2.2 hF, fun ft h => by cases h; exact b31 X Y.1 Y.2.1 Y.2.2 hF, fun ft h => by cases h; exact b32 X Y.1 Y.2.1 Y.2.2 hF, fun ft h => by cases h; exact b33 X Y.1 Y.2.1 Y.2.2 hF, fun ft h => by cases h; exact b34 X Y.1 Y.2.1 Y.2.2 hF, fun ft h => by cases h; exact b35 X Y.1 Y.2.1 Y.2.2 hF, fun ft h => by cases h; exact b36 X Y.1 Y.2.1 Y.2.2 hF, fun ft h => by cases h; exact b37 X Y.1 Y.2.1 Y.2.2 hF, fun ft h => by cases h; exact b38 X Y.1 Y.2.1 Y.2.2 hF, fun ft h => by cases h; exact b39 X Y.1 Y.2.1 Y.2.2 hF, fun ft h => by cases h; exact b40 X Y.1 Y.2.1 Y.2.2 hF, fun ft h => by cases h; exact b41 X Y.1 Y.2.1 Y.2.2 hF, fun ft h => by cases h; exact b42 X Y.1 Y.2.1 Y.2.2 hF, fun ft h => by cases h; exact b43 X Y.1 Y.2.1 Y.2.2 hF, fun ft h => by cases h; exact b44 X Y.1 Y.2.1 Y.2.2 hF, fun ft h => by cases h; exact b45 X Y.1 Y.2.1 Y.2.2 hF, fun ft h => by cases h; exact b46 X Y.1 Y.2.1 Y.2.2 hF, fun ft h => by cases h; exact b47 X Y.1 Y.2.1 Y.2.2 hF, trivial⟩ f fi h1 ft h2
end Ap.L13
end
section
open PySem PySem.W PyProof.Rows
namespace Ap.L13
theorem yw (hw : ∀ ns : List Int, ns.length ≤ 63 → wpF prg 14 47 [.ilist (ns.map .int)] (fun _ => Option.none) (fun v _ => v = .bool true) fun _ _ => False) : PySem.Challenge.rw_uf020020_13.Holds := hd (by
  intro w s₀ s₁ mg mb G Y fa' o pm cd doc dV kV ho hd hcd hD hmg hg args vals as hpre hlay hrd hwl hlo
  have KX := kIn_of Y
  refine Ground.open G ?_
  intro T B D TE TW
  clear B D TE TW
  wrow_args hpre hlay hrd hwl hlo
  refine enter_call ?_
  w_top on
  rename_i ns _ _ _ _ _ _ _ l _ _ _ _ hW _ _ _ hc _
  have gv : ∀ x, mg x = nsFind (esK (K w.params) mainGlobals) x := fun x => vk T.g ((kd w.params).g.ns KX) x
  have hfa : fa' = fa.getD 47 0 := by
    have h1 := gv (Str.ofString "law")
    have h2 : nsFind (esK (K w.params) mainGlobals) (Str.ofString "law") = some (.ref 504) := by kernel_rfl
    rw [← dkN, hmg, dkN, h2] at h1
    cases h1; rfl
  subst hfa
  try rw [vM] at hW
  have hY : GlobOk (pK PySem.Challenge.pw_uf020020_13 w s₁.heap mg mb tabs prg fa ca) globs ∧ GDs (pK PySem.Challenge.pw_uf020020_13 w s₁.heap mg mb tabs prg fa ca) gds ∧ GVs (pK PySem.Challenge.pw_uf020020_13 w s₁.heap mg mb tabs prg fa ca) gvs := ⟨(GlobOk.cons ((gv (Str.ofString "MOST_WINDOW")).trans (by kernel_rfl)) (.int _ 328) (GlobOk.cons ((gv (Str.ofString "MOST_BACK")).trans (by kernel_rfl)) (.int _ 330) (GlobOk.cons ((gv (Str.ofString "MOST_RING")).trans (by kernel_rfl)) (.int _ 332) (GlobOk.cons ((gv (Str.ofString "MOST_TEXTS")).trans (by kernel_rfl)) (.int _ 334) (GlobOk.cons ((gv (Str.ofString "MOST_SIGNS")).trans (by kernel_rfl)) (.int _ 336) (GlobOk.cons ((gv (Str.ofString "WORDS")).trans (by kernel_rfl)) (.tup (a := 292) ⟨Nat.le_of_ble_eq_true rfl, 0, KX 292 (zU _ 0) (by kernel_rfl)⟩ id (.cons (.str _ 566 (by decide +kernel)) (.cons (.str _ 567 (by decide +kernel)) (.cons (.str _ 568 (by decide +kernel)) .nil)))) (GlobOk.cons ((gv (Str.ofString "MOST_NUMBER")).trans (by kernel_rfl)) (.int _ 570) (GlobOk.cons ((gv (Str.ofString "FIGURES")).trans (by kernel_rfl)) (.str _ 680 (by decide +kernel)) (GlobOk.cons ((gv (Str.ofString "MOST_FIGURES")).trans (by kernel_rfl)) (.int _ 692) GlobOk.nil))))))))), (GDs.cons (ED (K := K w.params) (es := ⟨[en w.params "send" 682 (.str (sS "letter") 683), en w.params "hand" 684 (.str (sS "answer") 685), en w.params "tell" 686 (.str (sS "base") 687)]⟩) (m := 3) (a := 375) KX ((gv (Str.ofString "ANSWERS")).trans (by kernel_rfl)) (by decide) (by kernel_rfl) ⟨⟨_, _, rfl, rfl⟩, ⟨_, _, rfl, rfl⟩, ⟨_, _, rfl, rfl⟩, trivial⟩ (by kernel_rfl)) GDs.nil), (GVs.cons (ET (K := K w.params) (es := ⟨[en w.params "send" 682 (.str (sS "letter") 683), en w.params "hand" 684 (.str (sS "answer") 685), en w.params "tell" 686 (.str (sS "base") 687)]⟩) (m := 3) (a := 375) KX ((gv (Str.ofString "ANSWERS")).trans (by kernel_rfl)) (by kernel_rfl) ⟨⟨_, _, rfl, rfl⟩, ⟨_, _, rfl, rfl⟩, ⟨_, _, rfl, rfl⟩, trivial⟩ (by kernel_rfl) (by decide +kernel)) GVs.nil)⟩
  refine codeAny_mono (yJ KX T.g T.b T.nolimit T.builtins (kd w.params) (R := fun C => GlobOk C globs ∧ GDs C gds ∧ GVs C gvs) hY bs hg (ns := ns) hW (by omega) (d := 14) (by decide) (hw ns (by omega))) ?_
  rintro r s' ⟨rfl, h1, h2, h3⟩
  refine GoodW.toG ⟨.inl ⟨.bool true, .bool true, [], rfl, fun _ => rfl, .bool true, ?_, fun _ => ⟨.nil, fun a ha => nomatch ha⟩⟩, h1, h2, h3⟩
  first | kernel_rfl | with_unfolding_all rfl)
theorem holds : PySem.Challenge.rw_uf020020_13.Holds := yw fun ns hn => BY ns hn fun _ => rfl
end Ap.L13
end
set_option maxHeartbeats 4000000 in
theorem PySem.Challenge.cw_uf020020_13_holds : PySem.Challenge.rw_uf020020_13.Holds :=
  Ap.L13.holds
