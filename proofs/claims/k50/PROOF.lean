import PyProof.Rows.All
import Wide.All
import OpenK.AllK
import Wide.FinOn
import HandS.ForMost
import HandS.ForExc
import HandS.Walk
import HandS.Lambda
import KE.GoesNewDict
import KE.GoesEnum
import KE.GoesNew
import HandS.Wide
import HandS.TupMul
import HandS.TupAny
import HandS.IsInst
import HandS.Text
import HandS.RaiseMore
import KE.KTupSum
import PyProof.ReprRoads
import PyProof.P3In
import HandS.Deep
import PyProof.Rows.TupDisplay
import HandS.DictTup
import HandS.Iter
import PyProof.Rows.RegStrFacts
import HandS.Style
import HandS.SetFor
import HandS.SortInts
import HandS.Strs
import HandS.ExcOwn
import HandS.ExcIs
import HandS.EndTab
import KE.SortData
import KE.DataMinMax
import KE.DataCmp
import HandS.TupLe
import KE.KDflt
import PySem.Challenge.RW_votehouse_k50_whole_votes_passed_on_by_e
set_option Elab.async false
set_option linter.all false
set_option maxRecDepth 100000
set_option maxHeartbeats 1000000
namespace Iv
open PySem L2
abbrev Dt := PyData
/-- the module's own tuples that may be met as values; whether tuples may be keys; the name of the lambdas -/
class Cst where
  isC : Addr → Prop
  tk : Bool
  lamQ : Str
variable [Cst]
abbrev AS := Addr → Prop
/-- a key as a value -/
def kD : Key → Dt
  | .inl i => .int i
  | .inr x => .str x
/-- a list of the written part -/
def KLx (K : PySem.W.Frag) (a : Addr) (xs : List V) : Prop := ∃ (its : Array Value) (n : Nat), K.lookup a = some { cls := .type "list", data := .seq its n } ∧ its.size ≤ sizeLine ∧ Vals xs its.toList
/-- a list that is read -/
def Ls (K : PySem.W.Frag) (H : Hp) (a : Addr) (xs : List V) : Prop := Rd H a (.lst xs) ∨ KLx K a xs
theorem KLx.sq {K : PySem.W.Frag} {H : Hp} {a : Addr} {xs : List V} (h : KLx K a xs) : SqL K H a xs := let ⟨its, n, e, z, r⟩ := h; .inr ⟨_, its, n, e, rfl, rfl, rfl, z, r⟩
theorem Ls.sq {K : PySem.W.Frag} {H : Hp} {a : Addr} {xs : List V} (h : Ls K H a xs) : SqL K H a xs := h.elim .inl KLx.sq
theorem Ls.obj {X : Cx} {pins : List (Addr × Obj)} {σ : L2.St} {H : Hp} {s : Shared} {a : Addr} {xs : List V} (I : Inv X pins σ H s) (h : Ls X.K H a xs) :
    ∃ (its : List Value) (n : Nat), Vals xs its ∧ s.heap.get? a = some { cls := .type "list", data := .seq its.toArray n } ∧ xs.length ≤ sizeLine := by
  rcases h with r | ⟨its, n, e, z, rv⟩
  · obtain ⟨z, its, n, rv, e⟩ := r.ok I.hok
    exact ⟨its, n, rv, e, z⟩
  · refine ⟨its.toList, n, rv, by simpa using I.kIn a _ e, ?_⟩
    have e1 : xs.length = its.size := by simpa using rv.length
    rw [e1]
    exact z
/-- nothing is tracked -/
abbrev noH : Hp := fun _ => none
mutual
/-- v stands for d in H; no list or dict of it stands in O -/
inductive Rp (K : PySem.W.Frag) (O : AS) (H : Hp) : V → Dt → Prop
  | non : Rp K O H .non .none
  | bl (b : Bool) : Rp K O H (.bl b) (.bool b)
  | int (i : Int) : Rp K O H (.int i) (.int i)
  | str (x : Str) : Rp K O H (.str x) (.str x)
  | lst {a : Addr} {xs : List V} {ds : List Dt} : ¬ O a → Rd H a (.lst xs) → RpL K O H xs ds → Rp K O H (.ref a) (.list ds)
  | lsk {a : Addr} {xs : List V} {ds : List Dt} : KLx K a xs → RpL K O H xs ds → Rp K O H (.ref a) (.list ds)
  | tup {a : Addr} {xs : List V} {ds : List Dt} : H a = some (.tup xs) → RpL K O H xs ds → Rp K O H (.ref a) (.tuple ds)
  | tuk {a : Addr} {xs : List V} {ds : List Dt} : Cst.isC a → SqT K noH a xs → RpL K O H xs ds → Rp K O H (.ref a) (.tuple ds)
  | dK {a : Addr} {kvs : List (Key × V)} {ds : List (Dt × Dt)} : ¬ O a → Rd H a (.dK kvs) → RpK K O H kvs ds → Rp K O H (.ref a) (.dict ds)
  | dT {a : Addr} {kvs : List (List Key × V)} {ds : List (Dt × Dt)} : ¬ O a → Rd H a (.dT kvs) → RpT K O H kvs ds → Rp K O H (.ref a) (.dict ds)
inductive RpL (K : PySem.W.Frag) (O : AS) (H : Hp) : List V → List Dt → Prop
  | nil : RpL K O H [] []
  | cons {v : V} {vs : List V} {d : Dt} {ds : List Dt} : Rp K O H v d → RpL K O H vs ds → RpL K O H (v :: vs) (d :: ds)
inductive RpK (K : PySem.W.Frag) (O : AS) (H : Hp) : List (Key × V) → List (Dt × Dt) → Prop
  | nil : RpK K O H [] []
  | cons {k : Key} {v : V} {vs : List (Key × V)} {d : Dt} {ds : List (Dt × Dt)} : Rp K O H v d → RpK K O H vs ds → RpK K O H ((k, v) :: vs) ((kD k, d) :: ds)
inductive RpT (K : PySem.W.Frag) (O : AS) (H : Hp) : List (List Key × V) → List (Dt × Dt) → Prop
  | nil : RpT K O H [] []
  | cons {k : List Key} {v : V} {vs : List (List Key × V)} {d : Dt} {ds : List (Dt × Dt)} : Rp K O H v d → RpT K O H vs ds → RpT K O H ((k, v) :: vs) ((.tuple (k.map kD), d) :: ds)
end

/-- what may be read stays readable -/
structure Wk (O : AS) (H H' : Hp) : Prop where
  lst : ∀ a xs, ¬ O a → Rd H a (.lst xs) → Rd H' a (.lst xs)
  dK : ∀ a xs, ¬ O a → Rd H a (.dK xs) → Rd H' a (.dK xs)
  dT : ∀ a xs, ¬ O a → Rd H a (.dT xs) → Rd H' a (.dT xs)
  tup : ∀ a xs, H a = some (.tup xs) → H' a = some (.tup xs)
/-- no table of code objects -/
def nTab : HO → Prop
  | .tbl _ => False
  | _ => True
/-- no table, nothing known by its object -/
def plO : HO → Prop
  | .tbl _ => False
  | .ext _ => False
  | _ => True
/-- a list or a dict -/
def mutO : HO → Prop
  | .lst _ => True
  | .dK _ => True
  | .dT _ => True
  | .frz _ _ => True
  | _ => False
theorem mutO.nt {u : HO} (h : mutO u) : nTab u := by cases u <;> first | exact h.elim | trivial
theorem mutO.pl {u : HO} (h : mutO u) : plO u := by cases u <;> first | exact h.elim | trivial
theorem mutO.tp {u : HO} (h : mutO u) : ∀ xs, u ≠ .tup xs := by intro xs z; rw [z] at h; exact h
/-- the tables of code objects tell of lambdas alone -/
def Tabs (H : Hp) : Prop := ∀ P ps, H P = some (.tbl ps) → TriplesOk ps.toList ∧ ∀ (pos : Pos) (cv : Value), codeAmong pos ps.toList = some cv → ∃ c, cv = .ref c ∧ H c = some (LamX.CodeO c Cst.lamQ)
/-- what is not in O stays as it is, but for the tables -/
structure Ext (O : AS) (H H' : Hp) : Prop where
  keep : ∀ a o, ¬ O a → nTab o → H a = some o → H' a = some o
  tup : ∀ a xs, H a = some (.tup xs) → H' a = some (.tup xs)
  dom : ∀ a, H a ≠ none → H' a ≠ none
  tabs : Tabs H → Tabs H'
theorem Ext.lstK {O : AS} {H H' : Hp} (e : Ext O H H') {a : Addr} {xs : List V} (h : ¬ O a) (r : Rd H a (.lst xs)) : Rd H' a (.lst xs) := by
  rcases r with r | ⟨o, r⟩
  · exact .inl (e.keep a _ h trivial r)
  · exact .inr ⟨o, e.keep a _ h trivial r⟩
theorem Ext.dKK {O : AS} {H H' : Hp} (e : Ext O H H') {a : Addr} {xs : List (Key × V)} (h : ¬ O a) (r : Rd H a (.dK xs)) : Rd H' a (.dK xs) := by
  rcases r with r | ⟨o, r⟩
  · exact .inl (e.keep a _ h trivial r)
  · exact .inr ⟨o, e.keep a _ h trivial r⟩
theorem Ext.dTK {O : AS} {H H' : Hp} (e : Ext O H H') {a : Addr} {xs : List (List Key × V)} (h : ¬ O a) (r : Rd H a (.dT xs)) : Rd H' a (.dT xs) := by
  rcases r with r | ⟨o, r⟩
  · exact .inl (e.keep a _ h trivial r)
  · exact .inr ⟨o, e.keep a _ h trivial r⟩
theorem Ext.rd {O : AS} {H H' : Hp} (e : Ext O H H') {a : Addr} {u : HO} (h : ¬ O a) (r : Rd H a u) (n : nTab u := by trivial) : Rd H' a u := by
  rcases r with r | ⟨o, r⟩
  · exact .inl (e.keep a _ h n r)
  · exact .inr ⟨o, e.keep a _ h trivial r⟩
theorem Ext.wk {O : AS} {H H' : Hp} (e : Ext O H H') : Wk O H H' := ⟨fun _ _ h r => e.lstK h r, fun _ _ h r => e.dKK h r, fun _ _ h r => e.dTK h r, e.tup⟩
theorem Ext.refl {O : AS} {H : Hp} : Ext O H H := ⟨fun _ _ _ _ h => h, fun _ _ h => h, fun _ h => h, fun h => h⟩
theorem Ext.trans {O O1 : AS} {H H1 H2 : Hp} (a : Ext O H H1) (b : Ext O1 H1 H2) (h : ∀ x, O1 x → O x ∨ H x = none) : Ext O H H2 :=
  ⟨fun x o hx n e => b.keep x o (fun q => (h x q).elim hx fun n => by rw [e] at n; cases n) n (a.keep x o hx n e), fun x xs r => b.tup x xs (a.tup x xs r), fun x q => b.dom x (a.dom x q), fun t => b.tabs (a.tabs t)⟩
theorem Ext.wider {O O1 : AS} {H H1 : Hp} (a : Ext O H H1) (h : ∀ x, O x → O1 x) : Ext O1 H H1 := ⟨fun x o hx n e => a.keep x o (fun q => hx (h x q)) n e, a.tup, a.dom, a.tabs⟩
theorem Ext.mu {O : AS} {H H' : Hp} (e : Ext O H H') {a : Addr} (n : ¬ O a) (h3 : H a ≠ none) (h4 : ∀ u, H a = some u → mutO u) : ∀ u, H' a = some u → mutO u := by
  intro u r
  cases z : H a with
  | none => exact absurd z h3
  | some o =>
    have := e.keep a o n (h4 o z).nt z
    rw [this] at r
    cases r
    exact h4 _ z
theorem rdN {u : HO} (z : (∃ xs, u = .lst xs) ∨ (∃ xs, u = .dK xs) ∨ (∃ xs, u = .dT xs)) : nTab u := by
  rcases z with ⟨_, rfl⟩ | ⟨_, rfl⟩ | ⟨_, rfl⟩ <;> trivial
theorem tabs_new {H : Hp} {p : Addr} {o : HO} (h : H p = none) (ho : nTab o) (t : Tabs H) : Tabs (upd H p o) := by
  intro P ps hP
  by_cases e : P = p
  · rw [e, upd_same] at hP
    cases hP
    exact ho.elim
  · rw [upd_ne e] at hP
    obtain ⟨h1, h2⟩ := t P ps hP
    refine ⟨h1, fun pos cv hc => ?_⟩
    obtain ⟨c, e1, e2⟩ := h2 pos cv hc
    exact ⟨c, e1, by rw [upd_ne (ne_of_none e2 h)]; exact e2⟩
theorem tabs_put {H : Hp} {p : Addr} {o : HO} (h : ∀ u, H p = some u → plO u) (ho : nTab o) (t : Tabs H) : Tabs (upd H p o) := by
  intro P ps hP
  by_cases e : P = p
  · rw [e, upd_same] at hP
    cases hP
    exact ho.elim
  · rw [upd_ne e] at hP
    obtain ⟨h1, h2⟩ := t P ps hP
    refine ⟨h1, fun pos cv hc => ?_⟩
    obtain ⟨c, e1, e2⟩ := h2 pos cv hc
    refine ⟨c, e1, ?_⟩
    rw [upd_ne (fun z => by rw [z] at e2; exact (h _ e2).elim)]
    exact e2
theorem Ext.new {O : AS} {H : Hp} {p : Addr} {o : HO} (h : H p = none) (ho : nTab o := by trivial) : Ext O H (upd H p o) := by
  have k : ∀ a u, H a = some u → upd H p o a = some u := fun a u e => by
    rw [upd_ne (ne_of_none e h)]
    exact e
  refine ⟨fun a u _ _ e => k a u e, fun a xs r => k _ _ r, fun a q => ?_, tabs_new h ho⟩
  cases z : H a with
  | none => exact absurd z q
  | some u => rw [k a u z]; simp
theorem Wk.put {O : AS} {H : Hp} {p : Addr} {o : HO} (hO : O p) (hu : ∀ xs, H p ≠ some (.tup xs)) : Wk O H (upd H p o) := by
  have k : ∀ a u, ¬ O a → Rd H a u → Rd (upd H p o) a u := fun a u h r => by
    have ne : a ≠ p := fun q => h (by rw [q]; exact hO)
    rcases r with r | ⟨w, r⟩
    · exact .inl (by rw [upd_ne ne]; exact r)
    · exact .inr ⟨w, by rw [upd_ne ne]; exact r⟩
  refine ⟨fun a _ h r => k a _ h r, fun a _ h r => k a _ h r, fun a _ h r => k a _ h r, fun a xs r => ?_⟩
  rw [upd_ne (fun q => hu xs (by rw [← q]; exact r))]
  exact r
theorem Ext.put {O : AS} {H : Hp} {p : Addr} {o : HO} (hO : O p) (hu : ∀ xs, H p ≠ some (.tup xs)) (hp : ∀ u, H p = some u → plO u) (ho : nTab o := by trivial) : Ext O H (upd H p o) := by
  refine ⟨fun a w ha _ e => ?_, fun a xs r => ?_, fun a q => ?_, tabs_put hp ho⟩
  · rw [upd_ne (fun q => ha (by rw [q]; exact hO))]
    exact e
  · have : a ≠ p := fun q => hu xs (by rw [← q]; exact r)
    rw [upd_ne this]
    exact r
  · unfold upd
    split
    · simp
    · exact q

section
variable {K : PySem.W.Frag} {O O' : AS} {H H' : Hp}
theorem kT {a : Addr} {xs : List V} (h : SqT K noH a xs) : SqT K H a xs := h.elim (fun z => by rcases z with z | ⟨_, z⟩ <;> cases z) .inr
theorem Rp.mono_all (e : Wk O' H H') (hO : ∀ a, O' a → O a ∨ H a = none) :
    (∀ {v d}, Rp K O H v d → Rp K O' H' v d) ∧ (∀ {v d}, RpL K O H v d → RpL K O' H' v d) ∧ (∀ {v d}, RpK K O H v d → RpK K O' H' v d) ∧ (∀ {v d}, RpT K O H v d → RpT K O' H' v d) := by
  have av : ∀ {a : Addr} {u : HO}, ¬ O a → Rd H a u → ¬ O' a := fun {a u} n r q => by
    rcases hO a q with z | z
    · exact n z
    · rcases r with r | ⟨o, r⟩ <;> (rw [z] at r; cases r)
  have R := @Rp.rec _ K O H (fun v d _ => Rp K O' H' v d) (fun v d _ => RpL K O' H' v d) (fun v d _ => RpK K O' H' v d) (fun v d _ => RpT K O' H' v d)
    .non (fun b => .bl b) (fun i => .int i) (fun x => .str x) (fun n r _ q => .lst (av n r) (e.lst _ _ (av n r) r) q) (fun r _ q => .lsk r q) (fun r _ q => .tup (e.tup _ _ r) q) (fun c r _ q => .tuk c r q)
    (fun n r _ q => .dK (av n r) (e.dK _ _ (av n r) r) q) (fun n r _ q => .dT (av n r) (e.dT _ _ (av n r) r) q) .nil (fun _ _ a b => .cons a b) .nil (fun _ _ a b => .cons a b) .nil (fun _ _ a b => .cons a b)
  have RL := @RpL.rec _ K O H (fun v d _ => Rp K O' H' v d) (fun v d _ => RpL K O' H' v d) (fun v d _ => RpK K O' H' v d) (fun v d _ => RpT K O' H' v d)
    .non (fun b => .bl b) (fun i => .int i) (fun x => .str x) (fun n r _ q => .lst (av n r) (e.lst _ _ (av n r) r) q) (fun r _ q => .lsk r q) (fun r _ q => .tup (e.tup _ _ r) q) (fun c r _ q => .tuk c r q)
    (fun n r _ q => .dK (av n r) (e.dK _ _ (av n r) r) q) (fun n r _ q => .dT (av n r) (e.dT _ _ (av n r) r) q) .nil (fun _ _ a b => .cons a b) .nil (fun _ _ a b => .cons a b) .nil (fun _ _ a b => .cons a b)
  have RK := @RpK.rec _ K O H (fun v d _ => Rp K O' H' v d) (fun v d _ => RpL K O' H' v d) (fun v d _ => RpK K O' H' v d) (fun v d _ => RpT K O' H' v d)
    .non (fun b => .bl b) (fun i => .int i) (fun x => .str x) (fun n r _ q => .lst (av n r) (e.lst _ _ (av n r) r) q) (fun r _ q => .lsk r q) (fun r _ q => .tup (e.tup _ _ r) q) (fun c r _ q => .tuk c r q)
    (fun n r _ q => .dK (av n r) (e.dK _ _ (av n r) r) q) (fun n r _ q => .dT (av n r) (e.dT _ _ (av n r) r) q) .nil (fun _ _ a b => .cons a b) .nil (fun _ _ a b => .cons a b) .nil (fun _ _ a b => .cons a b)
  have RT := @RpT.rec _ K O H (fun v d _ => Rp K O' H' v d) (fun v d _ => RpL K O' H' v d) (fun v d _ => RpK K O' H' v d) (fun v d _ => RpT K O' H' v d)
    .non (fun b => .bl b) (fun i => .int i) (fun x => .str x) (fun n r _ q => .lst (av n r) (e.lst _ _ (av n r) r) q) (fun r _ q => .lsk r q) (fun r _ q => .tup (e.tup _ _ r) q) (fun c r _ q => .tuk c r q)
    (fun n r _ q => .dK (av n r) (e.dK _ _ (av n r) r) q) (fun n r _ q => .dT (av n r) (e.dT _ _ (av n r) r) q) .nil (fun _ _ a b => .cons a b) .nil (fun _ _ a b => .cons a b) .nil (fun _ _ a b => .cons a b)
  exact ⟨fun {v d} h => R h, fun {v d} h => RL h, fun {v d} h => RK h, fun {v d} h => RT h⟩
theorem Rp.mono {v : V} {d : Dt} (h : Rp K O H v d) (e : Wk O' H H') (hO : ∀ a, O' a → O a ∨ H a = none) : Rp K O' H' v d := (Rp.mono_all e hO).1 h
theorem RpL.mono {v : List V} {d : List Dt} (h : RpL K O H v d) (e : Wk O' H H') (hO : ∀ a, O' a → O a ∨ H a = none) : RpL K O' H' v d := (Rp.mono_all e hO).2.1 h
theorem RpK.mono {v : List (Key × V)} {d : List (Dt × Dt)} (h : RpK K O H v d) (e : Wk O' H H') (hO : ∀ a, O' a → O a ∨ H a = none) : RpK K O' H' v d := (Rp.mono_all e hO).2.2.1 h
theorem RpT.mono {v : List (List Key × V)} {d : List (Dt × Dt)} (h : RpT K O H v d) (e : Wk O' H H') (hO : ∀ a, O' a → O a ∨ H a = none) : RpT K O' H' v d := (Rp.mono_all e hO).2.2.2 h
theorem RpL.length {vs : List V} {ds : List Dt} (h : RpL K O H vs ds) : vs.length = ds.length := by
  induction vs generalizing ds with
  | nil => cases h; rfl
  | cons v vs ih =>
    cases h with
    | cons a b => rw [List.length_cons, List.length_cons, ih b]
theorem RpL.get {vs : List V} {ds : List Dt} (h : RpL K O H vs ds) : ∀ {i : Nat} {d : Dt}, ds[i]? = some d → ∃ v, vs[i]? = some v ∧ Rp K O H v d := by
  induction vs generalizing ds with
  | nil => cases h; intro i d e; simp at e
  | cons v vs ih =>
    cases h with
    | cons a b =>
      intro i d e
      cases i with
      | zero => simp at e; subst e; exact ⟨v, by simp, a⟩
      | succ i => obtain ⟨v', h1, h2⟩ := ih b (by simpa using e); exact ⟨v', by simpa using h1, h2⟩
theorem RpL.getV {vs : List V} {ds : List Dt} (h : RpL K O H vs ds) : ∀ {i : Nat} {v : V}, vs[i]? = some v → ∃ d, ds[i]? = some d ∧ Rp K O H v d := by
  induction vs generalizing ds with
  | nil => cases h; intro i d e; simp at e
  | cons v vs ih =>
    cases h with
    | cons a b =>
      intro i d e
      cases i with
      | zero => simp at e; subst e; exact ⟨_, by simp, a⟩
      | succ i => obtain ⟨v', h1, h2⟩ := ih b (by simpa using e); exact ⟨v', by simpa using h1, h2⟩
theorem RpL.append {vs ws : List V} {ds es : List Dt} (h : RpL K O H vs ds) (h2 : RpL K O H ws es) : RpL K O H (vs ++ ws) (ds ++ es) := by
  induction vs generalizing ds with
  | nil => cases h; exact h2
  | cons v vs ih =>
    cases h with
    | cons a b => exact .cons a (ih b)
theorem RpL.snoc {vs : List V} {ds : List Dt} {v : V} {d : Dt} (h : RpL K O H vs ds) (h2 : Rp K O H v d) : RpL K O H (vs ++ [v]) (ds ++ [d]) := h.append (.cons h2 .nil)
theorem RpL.take {vs : List V} {ds : List Dt} (h : RpL K O H vs ds) (n : Nat) : RpL K O H (vs.take n) (ds.take n) := by
  induction vs generalizing ds n with
  | nil => cases h; simp; exact .nil
  | cons v vs ih =>
    cases h with
    | cons a b =>
      cases n with
      | zero => exact .nil
      | succ n => exact .cons a (ih b n)
theorem RpL.drop {vs : List V} {ds : List Dt} (h : RpL K O H vs ds) (n : Nat) : RpL K O H (vs.drop n) (ds.drop n) := by
  induction vs generalizing ds n with
  | nil => cases h; simp; exact .nil
  | cons v vs ih =>
    cases h with
    | cons a b =>
      cases n with
      | zero => exact .cons a b
      | succ n => exact ih b n
theorem RpL.set {vs : List V} {ds : List Dt} {v : V} {d : Dt} (h : RpL K O H vs ds) (h2 : Rp K O H v d) (n : Nat) : RpL K O H (vs.set n v) (ds.set n d) := by
  induction vs generalizing ds n with
  | nil => cases h; exact .nil
  | cons w vs ih =>
    cases h with
    | cons a b =>
      cases n with
      | zero => exact .cons h2 b
      | succ n => exact .cons a (ih b n)
theorem RpL.reverse {vs : List V} {ds : List Dt} (h : RpL K O H vs ds) : RpL K O H vs.reverse ds.reverse := by
  induction vs generalizing ds with
  | nil => cases h; exact .nil
  | cons w vs ih =>
    cases h with
    | cons a b =>
      rw [List.reverse_cons, List.reverse_cons]
      exact (ih b).snoc a
theorem RpL.replicate {v : V} {d : Dt} (h : Rp K O H v d) (n : Nat) : RpL K O H (List.replicate n v) (List.replicate n d) := by
  induction n with
  | zero => exact .nil
  | succ n ih => rw [List.replicate_succ, List.replicate_succ]; exact .cons h ih
end

/-- a list or dict of the code's own, at a -/
inductive Own (K : PySem.W.Frag) (O : AS) (H : Hp) (a : Addr) : Dt → Prop
  | lst {xs : List V} {ds : List Dt} : H a = some (.lst xs) → RpL K O H xs ds → Own K O H a (.list ds)
  | dK {kvs : List (Key × V)} {ds : List (Dt × Dt)} : H a = some (.dK kvs) → RpK K O H kvs ds → Own K O H a (.dict ds)
  | dT {kvs : List (List Key × V)} {ds : List (Dt × Dt)} : H a = some (.dT kvs) → RpT K O H kvs ds → Own K O H a (.dict ds)
/-- as Rp, the thing itself wherever it stands -/
inductive Rt (K : PySem.W.Frag) (O : AS) (H : Hp) : V → Dt → Prop
  | rp {v : V} {d : Dt} : Rp K O H v d → Rt K O H v d
  | lst {a : Addr} {xs : List V} {ds : List Dt} : Rd H a (.lst xs) → RpL K O H xs ds → Rt K O H (.ref a) (.list ds)
  | dK {a : Addr} {kvs : List (Key × V)} {ds : List (Dt × Dt)} : Rd H a (.dK kvs) → RpK K O H kvs ds → Rt K O H (.ref a) (.dict ds)
  | dT {a : Addr} {kvs : List (List Key × V)} {ds : List (Dt × Dt)} : Rd H a (.dT kvs) → RpT K O H kvs ds → Rt K O H (.ref a) (.dict ds)
section
variable {K : PySem.W.Frag} {O O' : AS} {H H' : Hp} {a : Addr} {v : V} {d : Dt}
theorem Own.rt (h : Own K O H a d) : Rt K O H (.ref a) d := by
  cases h with
  | lst h r => exact .lst (.inl h) r
  | dK h r => exact .dK (.inl h) r
  | dT h r => exact .dT (.inl h) r
theorem Own.rp (h : Own K O H a d) (n : ¬ O a) : Rp K O H (.ref a) d := by
  cases h with
  | lst h r => exact .lst n (.inl h) r
  | dK h r => exact .dK n (.inl h) r
  | dT h r => exact .dT n (.inl h) r
theorem Own.at (h : Own K O H a d) : ∃ o, H a = some o := by
  cases h with
  | lst h r => exact ⟨_, h⟩
  | dK h r => exact ⟨_, h⟩
  | dT h r => exact ⟨_, h⟩
theorem Own.notup (h : Own K O H a d) : ∀ xs, H a ≠ some (.tup xs) := by
  intro xs r
  cases h with
  | lst h _ => rw [h] at r; cases r
  | dK h _ => rw [h] at r; cases r
  | dT h _ => rw [h] at r; cases r
theorem Own.pl (h : Own K O H a d) : ∀ u, H a = some u → plO u := by
  intro u r
  cases h with
  | lst h _ => rw [h] at r; cases r; trivial
  | dK h _ => rw [h] at r; cases r; trivial
  | dT h _ => rw [h] at r; cases r; trivial
theorem Own.mu (h : Own K O H a d) : ∀ u, H a = some u → mutO u := by
  intro u r
  cases h with
  | lst h _ => rw [h] at r; cases r; trivial
  | dK h _ => rw [h] at r; cases r; trivial
  | dT h _ => rw [h] at r; cases r; trivial
theorem Own.nt (h : Own K O H a d) : ∀ u, H a = some u → nTab u := by
  intro u r
  cases h with
  | lst h _ => rw [h] at r; cases r; trivial
  | dK h _ => rw [h] at r; cases r; trivial
  | dT h _ => rw [h] at r; cases r; trivial
theorem Own.stay {O1 : AS} (h : Own K O H a d) (e : Ext O1 H H') (n : ¬ O1 a) : ∀ o, H a = some o → H' a = some o := fun o ho => e.keep a o n (h.nt o ho) ho
theorem Own.mono (h : Own K O H a d) (e : Wk O' H H') (hO : ∀ a, O' a → O a ∨ H a = none) (k : ∀ o, H a = some o → H' a = some o) : Own K O' H' a d := by
  cases h with
  | lst h r => exact .lst (k _ h) (r.mono e hO)
  | dK h r => exact .dK (k _ h) (r.mono e hO)
  | dT h r => exact .dT (k _ h) (r.mono e hO)
/-- a seq that is read -/
theorem rt_list {ds : List Dt} (h : Rt K O H v (.list ds)) : ∃ a xs, v = .ref a ∧ SqL K H a xs ∧ RpL K O H xs ds := by
  cases h with
  | rp h =>
    cases h with
    | lst n r q => exact ⟨_, _, rfl, .inl r, q⟩
    | lsk r q => exact ⟨_, _, rfl, r.sq, q⟩
  | lst r q => exact ⟨_, _, rfl, .inl r, q⟩
theorem rt_ls {ds : List Dt} (h : Rt K O H v (.list ds)) : ∃ a xs, v = .ref a ∧ Ls K H a xs ∧ RpL K O H xs ds := by
  cases h with
  | rp h =>
    cases h with
    | lst n r q => exact ⟨_, _, rfl, .inl r, q⟩
    | lsk r q => exact ⟨_, _, rfl, .inr r, q⟩
  | lst r q => exact ⟨_, _, rfl, .inl r, q⟩
theorem rt_tuple {ds : List Dt} (h : Rt K O H v (.tuple ds)) : ∃ a xs, v = .ref a ∧ SqT K H a xs ∧ RpL K O H xs ds := by
  cases h with
  | rp h =>
    cases h with
    | tup r q => exact ⟨_, _, rfl, .inl (.inl r), q⟩
    | tuk c r q => exact ⟨_, _, rfl, kT r, q⟩
theorem rt_int {i : Int} (h : Rt K O H v (.int i)) : v = .int i := by
  cases h with
  | rp h => cases h; rfl
theorem rt_bool {i : Bool} (h : Rt K O H v (.bool i)) : v = .bl i := by
  cases h with
  | rp h => cases h; rfl
theorem rt_str {i : Str} (h : Rt K O H v (.str i)) : v = .str i := by
  cases h with
  | rp h => cases h; rfl
theorem rt_none (h : Rt K O H v .none) : v = .non := by
  cases h with
  | rp h => cases h; rfl
theorem rt_dict {ds : List (Dt × Dt)} (h : Rt K O H v (.dict ds)) : ∃ a, v = .ref a ∧ ((∃ kvs, Rd H a (.dK kvs) ∧ RpK K O H kvs ds) ∨ ∃ kvs, Rd H a (.dT kvs) ∧ RpT K O H kvs ds) := by
  cases h with
  | rp h =>
    cases h with
    | dK n r q => exact ⟨_, rfl, .inl ⟨_, r, q⟩⟩
    | dT n r q => exact ⟨_, rfl, .inr ⟨_, r, q⟩⟩
  | dK r q => exact ⟨_, rfl, .inl ⟨_, r, q⟩⟩
  | dT r q => exact ⟨_, rfl, .inr ⟨_, r, q⟩⟩
end
end Iv
set_option Elab.async false
set_option linter.all false
set_option maxRecDepth 100000
set_option maxHeartbeats 1000000
namespace Iv
open PySem L2
variable [Cst]
/-- a slot: without a value; a value that never changes; a list or dict of its own (io: the caller's); the same while it is walked; a thing of which only the place is known -/
inductive Sl where
  | un | sh (d : Dt) | ow (io : Bool) (d : Dt) | lo (io : Bool) (d : Dt) | ad (a : Addr)
abbrev Tau := List Sl
def Sl.isO : Sl → Bool
  | .ow _ _ => true
  | .lo _ _ => true
  | _ => false
def Sl.data : Sl → Option Dt
  | .un => none
  | .ad _ => none
  | .sh d => some d
  | .ow _ d => some d
  | .lo _ d => some d
/-- an expression's result: a value, a new list or dict, what stands in a slot -/
inductive Rs where
  | v (d : Dt) | nw (d : Dt) | sl (i : Nat)
abbrev M (α : Type) := Tau → Option (α × Tau)
def slD (τ : Tau) (i : Nat) : Option Dt := (τ[i]?).bind Sl.data
def deref : Rs → Tau → Option Dt
  | .v d, _ => some d
  | .nw d, _ => some d
  | .sl i, τ => slD τ i
/-- a slot's thing may be known elsewhere from now on -/
def unown (i : Nat) (τ : Tau) : Option Tau :=
  match τ[i]? with
  | some (.ow false d) => some (τ.set i (.sh d))
  | some (.sh d) => some τ
  | _ => none
/-- the value to be kept elsewhere -/
def share : Rs → M Dt
  | .v d, τ => some (d, τ)
  | .nw d, τ => some (d, τ)
  | .sl i, τ => (slD τ i).bind fun d => (unown i τ).map fun τ' => (d, τ')

/-- the addresses of what the slots own -/
def Os (τ : Tau) (σ : L2.St) : AS := fun a => ∃ (i : Nat) (s : Sl), τ[i]? = some s ∧ s.isO = true ∧ σ[i]? = some (some (.ref a))
/-- .. and may change -/
def Om (τ : Tau) (σ : L2.St) : AS := fun a => ∃ (i : Nat) (io : Bool) (d : Dt), τ[i]? = some (.ow io d) ∧ σ[i]? = some (some (.ref a))
theorem om_os {τ : Tau} {σ : L2.St} {a : Addr} (h : Om τ σ a) : Os τ σ a := by
  obtain ⟨i, io, d, h1, h2⟩ := h
  exact ⟨i, _, h1, rfl, h2⟩
/-- what an expression may do to a slot -/
def SlLe (s s' : Sl) : Prop := s' = s ∨ (∃ io d d', s = .ow io d ∧ s' = .ow io d') ∨ ∃ d d', s = .ow false d ∧ s' = .sh d'
structure Dn (τ τ' : Tau) : Prop where
  len : τ'.length = τ.length
  le : ∀ (i : Nat) (s : Sl), τ[i]? = some s → ∃ s', τ'[i]? = some s' ∧ SlLe s s'
theorem Dn.refl {τ : Tau} : Dn τ τ := ⟨rfl, fun _ s h => ⟨s, h, .inl rfl⟩⟩
theorem SlLe.trans {a b c : Sl} (h : SlLe a b) (k : SlLe b c) : SlLe a c := by
  rcases h with rfl | ⟨io, d, d', rfl, rfl⟩ | ⟨d, d', rfl, rfl⟩
  · exact k
  · rcases k with rfl | ⟨io2, e, e', q, rfl⟩ | ⟨e, e', q, rfl⟩
    · exact .inr (.inl ⟨io, d, d', rfl, rfl⟩)
    · cases q; exact .inr (.inl ⟨io, d, e', rfl, rfl⟩)
    · cases q; exact .inr (.inr ⟨d, e', rfl, rfl⟩)
  · rcases k with rfl | ⟨io2, e, e', q, rfl⟩ | ⟨e, e', q, rfl⟩
    · exact .inr (.inr ⟨d, d', rfl, rfl⟩)
    · cases q
    · cases q
theorem Dn.trans {τ τ1 τ2 : Tau} (a : Dn τ τ1) (b : Dn τ1 τ2) : Dn τ τ2 := ⟨b.len.trans a.len, fun i s h => by
  obtain ⟨s1, h1, l1⟩ := a.le i s h
  obtain ⟨s2, h2, l2⟩ := b.le i s1 h1
  exact ⟨s2, h2, l1.trans l2⟩⟩
theorem Dn.back {τ τ' : Tau} (a : Dn τ τ') {i : Nat} {s' : Sl} (h : τ'[i]? = some s') : ∃ s, τ[i]? = some s ∧ SlLe s s' := by
  have hi : i < τ.length := by rw [← a.len]; exact (List.getElem?_eq_some_iff.mp h).1
  obtain ⟨s1, h1, l1⟩ := a.le i _ (List.getElem?_eq_getElem hi)
  rw [h] at h1
  cases h1
  exact ⟨_, List.getElem?_eq_getElem hi, l1⟩
theorem Dn.os {τ τ' : Tau} (a : Dn τ τ') {σ : L2.St} {x : Addr} (h : Os τ' σ x) : Os τ σ x := by
  obtain ⟨i, s', h1, h2, h3⟩ := h
  obtain ⟨s, q, l⟩ := a.back h1
  refine ⟨i, s, q, ?_, h3⟩
  rcases l with rfl | ⟨io, d, d', rfl, rfl⟩ | ⟨d, d', rfl, rfl⟩
  · exact h2
  · rfl
  · rfl
theorem Dn.om {τ τ' : Tau} (a : Dn τ τ') {σ : L2.St} {x : Addr} (h : Om τ' σ x) : Om τ σ x := by
  obtain ⟨i, io, d, h1, h3⟩ := h
  obtain ⟨s, q, l⟩ := a.back h1
  rcases l with e | ⟨io2, d2, d', rfl, e⟩ | ⟨d2, d', rfl, e⟩
  · rw [← e] at q; exact ⟨i, io, d, q, h3⟩
  · exact ⟨i, io2, d2, q, h3⟩
  · exact ⟨i, false, d2, q, h3⟩
theorem Dn.keeps {τ τ' : Tau} (a : Dn τ τ') (i : Nat) (d : Dt) (h : slD τ i = some d) : ∃ d', slD τ' i = some d' := by
  unfold slD at h ⊢
  cases e : τ[i]? with
  | none => rw [e] at h; cases h
  | some s =>
    obtain ⟨s', q, l⟩ := a.le i s e
    rw [e] at h
    rw [q]
    rcases l with rfl | ⟨io, d2, d', rfl, rfl⟩ | ⟨d2, d', rfl, rfl⟩
    · exact ⟨d, h⟩
    · exact ⟨d', rfl⟩
    · exact ⟨d', rfl⟩
def Av (E : AS) (τ : Tau) (σ : L2.St) : AS := fun a => E a ∨ Os τ σ a
structure SRep (K : PySem.W.Frag) (E : AS) (τ : Tau) (σ : L2.St) (H : Hp) : Prop where
  len : τ.length = σ.length
  ex : ∀ a, E a → H a ≠ none
  tb : Tabs H
  sh : ∀ (i : Nat) d, τ[i]? = some (.sh d) → ∃ v, σ[i]? = some (some v) ∧ Rp K (Av E τ σ) H v d
  ow : ∀ (i : Nat) io d, τ[i]? = some (.ow io d) → ∃ a, σ[i]? = some (some (.ref a)) ∧ ¬ E a ∧ Own K (Av E τ σ) H a d
  lo : ∀ (i : Nat) io d, τ[i]? = some (.lo io d) → ∃ a, σ[i]? = some (some (.ref a)) ∧ ¬ E a ∧ H a ≠ none ∧ (∀ u, H a = some u → mutO u) ∧ Rt K (Av E τ σ) H (.ref a) d
  ad : ∀ (i : Nat) (a : Addr), τ[i]? = some (.ad a) → σ[i]? = some (some (.ref a))
  inj : ∀ (i j : Nat) (s t : Sl) (a : Addr), τ[i]? = some s → τ[j]? = some t → s.isO = true → t.isO = true → σ[i]? = some (some (.ref a)) → σ[j]? = some (some (.ref a)) → i = j
section
variable {K : PySem.W.Frag} {E E' : AS} {τ τ' τ1 : Tau} {σ σ' : L2.St} {H H' H1 : Hp} {v : V} {d : Dt} {i : Nat}
theorem ad_set {τ : Tau} {j k : Nat} {s : Sl} {a : Addr} (hs : ∀ b, s ≠ .ad b) (h : (τ.set j s)[k]? = some (.ad a)) : τ[k]? = some (.ad a) ∧ j ≠ k := by
  by_cases e : j = k
  · subst e
    have hj : j < τ.length := by
      have := (List.getElem?_eq_some_iff.mp h).1
      rwa [List.length_set] at this
    rw [List.getElem?_set_self hj] at h
    exact absurd (Option.some.inj h) (hs a)
  · rw [List.getElem?_set_ne e] at h
    exact ⟨h, e⟩
theorem SRep.os_at (S : SRep K E τ σ H) {a : Addr} (h : Os τ σ a) : H a ≠ none ∧ ¬ E a := by
  obtain ⟨i, s, e, o, q⟩ := h
  cases s with
  | un => cases o
  | sh d => cases o
  | ow io d =>
    obtain ⟨b, e2, n, w⟩ := S.ow i io d e
    rw [q] at e2
    cases e2
    obtain ⟨o, z⟩ := w.at
    exact ⟨by rw [z]; simp, n⟩
  | lo io d =>
    obtain ⟨b, e2, n, w, _⟩ := S.lo i io d e
    rw [q] at e2
    cases e2
    exact ⟨w, n⟩
  | ad a => cases o
theorem SRep.av_at (S : SRep K E τ σ H) {a : Addr} (h : Av E τ σ a) : H a ≠ none := h.elim (S.ex a) fun z => (S.os_at z).1
/-- what a slot holds may be read -/
theorem SRep.read (S : SRep K E τ σ H) (h : slD τ i = some d) : ∃ v, σ[i]? = some (some v) ∧ Rt K (Av E τ σ) H v d := by
  unfold slD at h
  cases e : τ[i]? with
  | none => rw [e] at h; cases h
  | some s =>
    rw [e] at h
    cases s with
    | un => cases h
    | sh d' => cases h; obtain ⟨v, h1, h2⟩ := S.sh i d e; exact ⟨v, h1, .rp h2⟩
    | ow io d' => cases h; obtain ⟨a, h1, _, h2⟩ := S.ow i io d e; exact ⟨_, h1, h2.rt⟩
    | lo io d' => cases h; obtain ⟨a, h1, _, _, _, h2⟩ := S.lo i io d e; exact ⟨_, h1, h2⟩
    | ad a => cases h
theorem Rt.mono {O O' : AS} (h : Rt K O H v d) (e : Wk O' H H') (hO : ∀ a, O' a → O a ∨ H a = none) (top : ∀ a, v = .ref a → (∀ u, Rd H a u → (∃ xs, u = .lst xs) ∨ (∃ xs, u = .dK xs) ∨ (∃ xs, u = .dT xs) → Rd H' a u) ∨ ¬ O' a) : Rt K O' H' v d := by
  cases h with
  | rp h => exact .rp (h.mono e hO)
  | lst h r => exact .lst ((top _ rfl).elim (fun k => k _ h (.inl ⟨_, rfl⟩)) fun n => e.lst _ _ n h) (r.mono e hO)
  | dK h r => exact .dK ((top _ rfl).elim (fun k => k _ h (.inr (.inl ⟨_, rfl⟩))) fun n => e.dK _ _ n h) (r.mono e hO)
  | dT h r => exact .dT ((top _ rfl).elim (fun k => k _ h (.inr (.inr ⟨_, rfl⟩))) fun n => e.dT _ _ n h) (r.mono e hO)
/-- all that is known stays while only new things come -/
theorem SRep.grow (S : SRep K E τ σ H) (e : Ext (fun _ => False) H H') : SRep K E τ σ H' := by
  have w : Wk (Av E τ σ) H H' := (e.wider fun _ q => q.elim).wk
  have hO : ∀ a, Av E τ σ a → Av E τ σ a ∨ H a = none := fun _ q => .inl q
  have kp : ∀ a o, nTab o → H a = some o → H' a = some o := fun a o n q => e.keep a o (fun z => z) n q
  have nn : ∀ a, H a ≠ none → H' a ≠ none := e.dom
  refine ⟨S.len, fun a q => nn a (S.ex a q), e.tabs S.tb, fun i d q => ?_, fun i io d q => ?_, fun i io d q => ?_, S.ad, S.inj⟩
  · obtain ⟨v, h1, h2⟩ := S.sh i d q
    exact ⟨v, h1, h2.mono w hO⟩
  · obtain ⟨a, h1, h2, h3⟩ := S.ow i io d q
    exact ⟨a, h1, h2, h3.mono w hO fun o ho => kp a o (h3.nt o ho) ho⟩
  · obtain ⟨a, h1, h2, h3, h4, h5⟩ := S.lo i io d q
    exact ⟨a, h1, h2, nn a h3, e.mu (fun z => z) h3 h4, h5.mono w hO fun b q => .inl fun u r z => e.rd (fun z => z) r (rdN z)⟩
/-- fewer are to be avoided -/
theorem SRep.fewer (S : SRep K E τ σ H) (h : ∀ a, E' a → E a) : SRep K E' τ σ H := by
  have w : Wk (Av E' τ σ) H H := (Ext.refl (O := Av E' τ σ)).wk
  have hO : ∀ a, Av E' τ σ a → Av E τ σ a ∨ H a = none := fun a q => .inl (q.elim (fun z => .inl (h a z)) .inr)
  refine ⟨S.len, fun a q => S.ex a (h a q), S.tb, fun i d q => ?_, fun i io d q => ?_, fun i io d q => ?_, S.ad, S.inj⟩
  · obtain ⟨v, h1, h2⟩ := S.sh i d q
    exact ⟨v, h1, h2.mono w hO⟩
  · obtain ⟨a, h1, h2, h3⟩ := S.ow i io d q
    exact ⟨a, h1, fun z => h2 (h a z), h3.mono w hO fun _ z => z⟩
  · obtain ⟨a, h1, h2, h3, h4, h5⟩ := S.lo i io d q
    exact ⟨a, h1, fun z => h2 (h a z), h3, h4, h5.mono w hO fun b q => .inl fun u r _ => r⟩
end

/-! ### expressions -/
/-- what is known behind an expression -/
structure Post (K : PySem.W.Frag) (E : AS) (τ : Tau) (σ : L2.St) (H : Hp) (r : Rs) (τ' : Tau) (v : V) (H' : Hp) : Prop where
  ext : Ext (Om τ σ) H H'
  dn : Dn τ τ'
  res : match r with
    | .v d => SRep K E τ' σ H' ∧ Rp K (Av E τ' σ) H' v d
    | .nw d => ∃ p, v = .ref p ∧ H p = none ∧ ¬ E p ∧ SRep K (fun a => E a ∨ a = p) τ' σ H' ∧ Own K (Av (fun a => E a ∨ a = p) τ' σ) H' p d
    | .sl i => SRep K E τ' σ H' ∧ σ[i]? = some (some v) ∧ ∃ d, slD τ' i = some d
/-- the reading of an expression that does what m says -/
def tOf (K : PySem.W.Frag) (m : M Rs) : TE := fun σ H Q => ∃ E τ r τ', SRep K E τ σ H ∧ m τ = some (r, τ') ∧ ∀ v H', Post K E τ σ H r τ' v H' → Q v H'
structure SE (X : Cx) (e : Expr) (m : M Rs) : Prop where
  pe : PE X e (tOf X.K m)
theorem peW {X : Cx} {e : Expr} {t u : TE} (h : PE X e t) (k : ∀ σ H Q, u σ H Q → t σ H Q) : PE X e u := ⟨fun pins s σ H Q I q => h.run pins s σ H Q I (k σ H Q q)⟩
section
variable {K : PySem.W.Frag} {E E' : AS} {τ τ' τ1 : Tau} {σ σ' : L2.St} {H H' H1 : Hp} {v : V} {d : Dt} {i : Nat} {r : Rs}
theorem Post.srep (P : Post K E τ σ H r τ' v H') : SRep K E τ' σ H' := by
  cases r with
  | v d => exact P.res.1
  | nw d => obtain ⟨p, _, _, _, h, _⟩ := P.res; exact h.fewer fun _ => .inl
  | sl i => exact P.res.1
/-- the result may be read -/
theorem Post.read (P : Post K E τ σ H r τ' v H') (h : deref r τ' = some d) : Rt K (Av E τ' σ) H' v d := by
  cases r with
  | v d' => cases h; exact .rp P.res.2
  | nw d' =>
    cases h
    obtain ⟨p, rfl, n, nE, S, w⟩ := P.res
    refine w.rt.mono (Ext.refl (O := Av E τ' σ)).wk (fun a q => .inl (q.elim (fun z => .inl (.inl z)) .inr)) fun b _ => .inl fun u r _ => r
  | sl i =>
    obtain ⟨S, h1, _⟩ := P.res
    obtain ⟨v', h2, h3⟩ := S.read h
    rw [h1] at h2
    cases h2
    exact h3
theorem dn_unown {j : Nat} (h : unown j τ = some τ') : Dn τ τ' := by
  unfold Iv.unown at h
  split at h
  · rename_i d e
    cases h
    refine ⟨List.length_set .., fun k s q => ?_⟩
    by_cases hk : j = k
    · subst hk
      rw [e] at q
      cases q
      exact ⟨_, List.getElem?_set_self (List.getElem?_eq_some_iff.mp e).1, .inr (.inr ⟨_, _, rfl, rfl⟩)⟩
    · exact ⟨s, by rw [List.getElem?_set_ne hk]; exact q, .inl rfl⟩
  · cases h; exact .refl
  · cases h
theorem slD_unown {j : Nat} (h : unown j τ = some τ') (i : Nat) : slD τ' i = slD τ i := by
  unfold Iv.unown at h
  split at h
  · rename_i d e
    cases h
    unfold slD
    by_cases hk : j = i
    · subst hk
      rw [List.getElem?_set_self (List.getElem?_eq_some_iff.mp e).1, e]
      rfl
    · rw [List.getElem?_set_ne hk]
  · cases h; rfl
  · cases h
theorem SRep.unown {j : Nat} (S : SRep K E τ σ H) (h : unown j τ = some τ') (hd : slD τ j = some d) (hv : σ[j]? = some (some v)) : SRep K E τ' σ H ∧ Rp K (Av E τ' σ) H v d := by
  have sub := fun a z => (dn_unown h).os (σ := σ) (x := a) z
  have w : Wk (Av E τ' σ) H H := (Ext.refl (O := Av E τ' σ)).wk
  have hO : ∀ a, Av E τ' σ a → Av E τ σ a ∨ H a = none := fun a q => .inl (q.elim .inl fun z => .inr (sub a z))
  unfold Iv.unown at h
  split at h
  · rename_i d' e
    cases h
    have hd' : d' = d := by
      unfold slD at hd
      rw [e] at hd
      exact Option.some.inj hd
    subst hd'
    have hj := (List.getElem?_eq_some_iff.mp e).1
    obtain ⟨a, h1, h2, h3⟩ := S.ow j false d' e
    rw [hv] at h1
    cases h1
    have na : ¬ Av E (τ.set j (.sh d')) σ a := by
      rintro (z | ⟨k, s, z1, z2, z3⟩)
      · exact h2 z
      · by_cases hk : j = k
        · subst hk
          rw [List.getElem?_set_self hj] at z1
          cases z1
          cases z2
        · rw [List.getElem?_set_ne hk] at z1
          exact hk (S.inj j k _ _ a e z1 rfl z2 hv z3)
    have ra : Rp K (Av E (τ.set j (.sh d')) σ) H (.ref a) d' := (h3.mono w hO fun _ z => z).rp na
    refine ⟨⟨by rw [List.length_set]; exact S.len, S.ex, S.tb, fun k d2 q => ?_, fun k io d2 q => ?_, fun k io d2 q => ?_, fun k a q => S.ad k a (ad_set (fun _ z => by cases z) q).1, fun k l s t b q1 q2 q3 q4 q5 q6 => ?_⟩, ra⟩
    · by_cases hk : j = k
      · subst hk
        rw [List.getElem?_set_self hj] at q
        cases q
        exact ⟨_, hv, ra⟩
      · rw [List.getElem?_set_ne hk] at q
        obtain ⟨v', y1, y2⟩ := S.sh k d2 q
        exact ⟨v', y1, y2.mono w hO⟩
    · by_cases hk : j = k
      · subst hk
        rw [List.getElem?_set_self hj] at q
        cases q
      · rw [List.getElem?_set_ne hk] at q
        obtain ⟨b, y1, y2, y3⟩ := S.ow k io d2 q
        exact ⟨b, y1, y2, y3.mono w hO fun _ z => z⟩
    · by_cases hk : j = k
      · subst hk
        rw [List.getElem?_set_self hj] at q
        cases q
      · rw [List.getElem?_set_ne hk] at q
        obtain ⟨b, y1, y2, y3, y4, y5⟩ := S.lo k io d2 q
        exact ⟨b, y1, y2, y3, y4, y5.mono w hO fun b q => .inl fun u r _ => r⟩
    · have ns : ∀ (m : Nat) (s : Sl), (τ.set j (.sh d'))[m]? = some s → s.isO = true → τ[m]? = some s := fun m s z1 z2 => by
        by_cases hk : j = m
        · subst hk
          rw [List.getElem?_set_self hj] at z1
          cases z1
          cases z2
        · rw [List.getElem?_set_ne hk] at z1
          exact z1
      exact S.inj k l s t b (ns k s q1 q3) (ns l t q2 q4) q3 q4 q5 q6
  · rename_i d' e
    cases h
    have hd' : d' = d := by
      unfold slD at hd
      rw [e] at hd
      exact Option.some.inj hd
    subst hd'
    obtain ⟨v', h1, h2⟩ := S.sh j d' e
    rw [hv] at h1
    cases h1
    exact ⟨S, h2⟩
  · cases h
/-- the result is kept elsewhere -/
theorem Post.share (P : Post K E τ σ H r τ' v H') (h : share r τ' = some (d, τ1)) : Post K E τ σ H (.v d) τ1 v H' := by
  cases r with
  | v d' => cases h; exact P
  | nw d' =>
    cases h
    obtain ⟨p, rfl, n, nE, S, w⟩ := P.res
    refine ⟨P.ext, P.dn, S.fewer fun _ => .inl, ?_⟩
    have np : ¬ Av E τ' σ p := by
      rintro (z | z)
      · exact nE z
      · exact (S.os_at z).2 (.inr rfl)
    exact (w.mono (Ext.refl (O := Av E τ' σ)).wk (fun a q => .inl (q.elim (fun z => .inl (.inl z)) .inr)) fun _ z => z).rp np
  | sl i =>
    obtain ⟨S, h1, d2, h2⟩ := P.res
    simp only [Iv.share, Option.bind_eq_some_iff, Option.map_eq_some_iff] at h
    obtain ⟨d3, e1, τ3, e2, e3⟩ := h
    cases e3
    have q := S.unown e2 e1 h1
    exact ⟨P.ext, P.dn.trans (dn_unown e2), q.1, q.2⟩
end
end Iv
set_option Elab.async false
set_option linter.all false
set_option maxRecDepth 100000
set_option maxHeartbeats 1000000
namespace Iv
open PySem L2
variable [Cst]
abbrev nO : AS := fun _ => False
section
variable {K : PySem.W.Frag} {E E' : AS} {τ τ' τ1 τ2 : Tau} {σ σ' : L2.St} {H H' H1 H2 : Hp} {v x y : V} {d e : Dt} {i : Nat} {r ra rb : Rs}
/-- what a step hands back, by its kind -/
def Res (K : PySem.W.Frag) (O : AS) (H : Hp) (r : Rs) (v : V) (H' : Hp) : Prop :=
  match r with
  | .v d => Rp K O H' v d
  | .nw d => ∃ p, v = .ref p ∧ H p = none ∧ Own K (fun a => O a ∨ a = p) H' p d
  | .sl _ => False
theorem wkAll (e : Ext nO H H') {O : AS} : Wk O H H' := (e.wider fun _ q => q.elim).wk
theorem SRep.growNew (S : SRep K E τ σ H) (e : Ext nO H H') {p : Addr} (hp : H p = none) (hp' : H' p ≠ none) : SRep K (fun a => E a ∨ a = p) τ σ H' := by
  have hO : ∀ a, Av (fun a => E a ∨ a = p) τ σ a → Av E τ σ a ∨ H a = none := fun a q => by
    rcases q with (q | q) | q
    · exact .inl (.inl q)
    · exact .inr (by rw [q]; exact hp)
    · exact .inl (.inr q)
  have w : Wk (Av (fun a => E a ∨ a = p) τ σ) H H' := wkAll e
  have np : ∀ a, H a ≠ none → a ≠ p := fun a q z => q (by rw [z]; exact hp)
  refine ⟨S.len, fun a q => q.elim (fun q => e.dom a (S.ex a q)) fun q => by rw [q]; exact hp', e.tabs S.tb, fun i d q => ?_, fun i io d q => ?_, fun i io d q => ?_, S.ad, S.inj⟩
  · obtain ⟨v, h1, h2⟩ := S.sh i d q
    exact ⟨v, h1, h2.mono w hO⟩
  · obtain ⟨a, h1, h2, h3⟩ := S.ow i io d q
    obtain ⟨o, ho⟩ := h3.at
    exact ⟨a, h1, fun z => z.elim h2 (np a (by rw [ho]; simp)), h3.mono w hO fun o ho => e.keep a o (fun z => z) (h3.nt o ho) ho⟩
  · obtain ⟨a, h1, h2, h3, h4, h5⟩ := S.lo i io d q
    exact ⟨a, h1, fun z => z.elim h2 (np a h3), e.dom a h3, e.mu (fun z => z) h3 h4, h5.mono w hO fun b q => .inl fun u r z => e.rd (fun z => z) r (rdN z)⟩
theorem Own.av {O O' : AS} {p : Addr} (w : Own K O H p d) (h : ∀ a, O' a → O a) : Own K O' H p d := w.mono (Ext.refl (O := O')).wk (fun a q => .inl (h a q)) fun _ z => z
/-- a step behind the parts -/
theorem post_step (S : SRep K E τ σ H) (e : Ext nO H H') (q : Res K (Av E τ σ) H r v H') : Post K E τ σ H r τ v H' := by
  refine ⟨e.wider fun _ z => z.elim, .refl, ?_⟩
  cases r with
  | v d => exact ⟨S.grow e, q⟩
  | nw d =>
    obtain ⟨p, rfl, n, w⟩ := q
    obtain ⟨o, ho⟩ := w.at
    refine ⟨p, rfl, n, fun z => S.ex p z n, S.growNew e n (by rw [ho]; simp), w.av fun a q => ?_⟩
    rcases q with (q | q) | q
    · exact .inl (.inl q)
    · exact .inr q
    · exact .inl (.inr q)
  | sl i => exact False.elim q
theorem Post.comp (P1 : Post K E τ σ H ra τ1 x H1) (P2 : Post K E τ1 σ H1 r τ2 v H2) : Post K E τ σ H r τ2 v H2 := by
  refine ⟨P1.ext.trans P2.ext fun a q => .inl (P1.dn.om q), P1.dn.trans P2.dn, ?_⟩
  cases r with
  | v d => exact P2.res
  | nw d =>
    obtain ⟨p, e, n, q⟩ := P2.res
    refine ⟨p, e, ?_, q⟩
    cases z : H p with
    | none => rfl
    | some o => exact absurd n (P1.ext.dom p (by rw [z]; simp))
  | sl i => exact P2.res
/-- the first of two results, behind the second -/
theorem Post.pend (P1 : Post K E τ σ H ra τ1 x H1) (P2 : Post K E τ1 σ H1 rb τ2 y H2) (h : deref ra τ2 = some d) : Rt K (Av E τ2 σ) H2 x d := by
  have key : ∀ {d}, Rp K (Av E τ1 σ) H1 x d → Rt K (Av E τ2 σ) H2 x d := fun q =>
    .rp ((q.mono (O' := Av E τ1 σ) (P2.ext.wider fun a z => .inr (om_os z)).wk fun a z => .inl z).mono (Ext.refl (O := Av E τ2 σ)).wk fun a z => .inl (z.elim .inl fun z => .inr (P2.dn.os z)))
  cases ra with
  | v d' => cases h; exact key P1.res.2
  | nw d' =>
    cases h
    exact key (P1.share (τ1 := τ1) rfl).res.2
  | sl i =>
    obtain ⟨S, h1, _⟩ := P1.res
    obtain ⟨v', h2, h3⟩ := P2.srep.read h
    rw [h1] at h2
    cases h2
    exact h3
end
/-! ### names and constants -/
def mName (i : Nat) : M Rs := fun τ => match τ[i]? with
  | some (.sh d) => some (.v d, τ)
  | some (.ow _ _) => some (.sl i, τ)
  | some (.lo _ _) => some (.sl i, τ)
  | _ => none
def mK (d : Dt) : M Rs := fun τ => some (.v d, τ)
section
variable {X : Cx}
theorem se_name {i : Nat} {x : Str} {pos : Pos} (hN : X.N[i]? = some x) (hv : Vis X.env.scope x) (hd : (x == ("__debug__" : Str)) = false := by decide) (hcd : (x == ("__classdict__" : Str)) = false := by decide) : SE X (.Name x pos) (mName i) := by
  refine ⟨peW (pe_var hN hv hd hcd) fun σ H Q h => ?_⟩
  obtain ⟨E, τ, r, τ', S, hm, k⟩ := h
  unfold mName at hm
  split at hm
  · rename_i d e
    cases hm
    obtain ⟨v, h1, h2⟩ := S.sh i d e
    exact ⟨v, h1, k v H ⟨.refl, .refl, S, h2⟩⟩
  · rename_i io d e
    cases hm
    obtain ⟨a, h1, h2, h3⟩ := S.ow i io d e
    exact ⟨_, h1, k _ H ⟨.refl, .refl, S, h1, d, by unfold slD; rw [e]; rfl⟩⟩
  · rename_i io d e
    cases hm
    obtain ⟨a, h1, _⟩ := S.lo i io d e
    exact ⟨_, h1, k _ H ⟨.refl, .refl, S, h1, d, by unfold slD; rw [e]; rfl⟩⟩
  · cases hm
/-- a thing that stands for d wherever -/
def Fx (K : PySem.W.Frag) (v : V) (d : Dt) : Prop := ∀ O H, Rp K O H v d
theorem se_const {e : Expr} {v : V} {d : Dt} (h : PE X e (tC v)) (f : Fx X.K v d) : SE X e (mK d) := by
  refine ⟨peW h fun σ H Q h => ?_⟩
  obtain ⟨E, τ, r, τ', S, hm, k⟩ := h
  cases hm
  exact k v H ⟨.refl, .refl, S, f _ _⟩
theorem se_int {i j pos} : SE X (.Constant (.int i) j pos) (mK (.int i)) := se_const pe_int fun _ _ => .int i
theorem se_bl {b j pos} : SE X (.Constant (.bool b) j pos) (mK (.bool b)) := se_const pe_bl fun _ _ => .bl b
theorem se_non {j pos} : SE X (.Constant .none j pos) (mK .none) := se_const pe_non fun _ _ => .non
theorem se_str {x j pos} : SE X (.Constant (.str x) j pos) (mK (.str x)) := se_const pe_str fun _ _ => .str x
/-- a module's constant -/
theorem se_glob {x : Str} {v : V} {u : Value} {d : Dt} {pos : Pos} (hg : Gl X x) (hm : X.mg x = some u) (r : RelV v u) (f : Fx X.K v d) (hd : (x == ("__debug__" : Str)) = false := by decide) : SE X (.Name x pos) (mK d) := se_const (pe_glob hg hm r hd) f
end
/-! ### operations on two values -/
def mBin (f : Dt → Dt → Option Rs) (ma mb : M Rs) : M Rs := fun τ =>
  (ma τ).bind fun p => (mb p.2).bind fun q => (deref p.1 q.2).bind fun d => (deref q.1 q.2).bind fun e => (f d e).map fun z => (z, q.2)
def rBin (K : PySem.W.Frag) (f : Dt → Dt → Option Rs) : R2 := fun x y H Q => ∃ O d e z, (∀ a, O a → H a ≠ none) ∧ Rt K O H x d ∧ Rt K O H y e ∧ f d e = some z ∧ ∀ v H', Ext nO H H' → Res K O H z v H' → Q v H'
theorem OpR.weak {X : Cx} {f : Value → Value → Sem Value} {r r' : R2} (h : OpR X f r) (k : ∀ x y H Q, r' x y H Q → r x y H Q) : OpR X f r' :=
  fun pins s σ H x y v u Q I rx ry q => h pins s σ H x y v u Q I rx ry (k x y H Q q)
theorem mBin_read {K : PySem.W.Frag} {f : Dt → Dt → Option Rs} {ma mb : M Rs} (σ : L2.St) (H : Hp) (Q : VK) (h : tOf K (mBin f ma mb) σ H Q) : tOp (rBin K f) (tOf K ma) (tOf K mb) σ H Q := by
  obtain ⟨E, τ, r, τ', S, hm, k⟩ := h
  simp only [mBin, Option.bind_eq_some_iff, Option.map_eq_some_iff] at hm
  obtain ⟨⟨ra, τ1⟩, h1, ⟨rb, τ2⟩, h2, d, h3, e, h4, z, h5, h6⟩ := hm
  cases h6
  refine ⟨E, τ, ra, τ1, S, h1, fun x H1 P1 => ⟨E, τ1, rb, _, P1.srep, h2, fun y H2 P2 => ?_⟩⟩
  refine ⟨Av E τ2 σ, d, e, r, fun a q => P2.srep.av_at q, P1.pend P2 h3, P2.read h4, h5, fun v H3 e3 q => k v H3 ?_⟩
  exact (P1.comp P2).comp (post_step P2.srep e3 q)
section
variable {X : Cx} {a b c : Expr} {ma mb mc : M Rs} {f f2 : Dt → Dt → Option Rs} {pos : Pos}
theorem se_bin {op : Operator} (ho : OpR X (binaryOp op) (rBin X.K f)) (ha : SE X a ma) (hb : SE X b mb) : SE X (.BinOp a op b pos) (mBin f ma mb) := ⟨peW (pe_op ho ha.pe hb.pe) mBin_read⟩
theorem se_cmp {op : CmpOp} (ho : OpR X (compareOp op) (rBin X.K f)) (ha : SE X a ma) (hb : SE X b mb) (hm : behindInMarks op b = false) : SE X (.Compare a [op] [b] pos) (mBin f ma mb) := ⟨peW (pe_cmpR ho ha.pe hb.pe hm) mBin_read⟩
theorem se_ix (hr : IxR X (rBin X.K f)) (ha : SE X a ma) (hb : SE X b mb) (hs : PlainIx b := by exact fun _ _ => rfl) : SE X (.Subscript a b pos) (mBin f ma mb) := ⟨peW (pe_ix hr ha.pe hb.pe hs) mBin_read⟩
end
/-! ### operations on one value -/
def mUn (f : Dt → Option Rs) (ma : M Rs) : M Rs := fun τ => (ma τ).bind fun p => (deref p.1 p.2).bind fun d => (f d).map fun z => (z, p.2)
def rUn (K : PySem.W.Frag) (f : Dt → Option Rs) : V → Hp → VK → Prop := fun x H Q => ∃ O d z, (∀ a, O a → H a ≠ none) ∧ Rt K O H x d ∧ f d = some z ∧ ∀ v H', Ext nO H H' → Res K O H z v H' → Q v H'
theorem mUn_read {K : PySem.W.Frag} {f : Dt → Option Rs} {ma : M Rs} (σ : L2.St) (H : Hp) (Q : VK) (h : tOf K (mUn f ma) σ H Q) : tUn (rUn K f) (tOf K ma) σ H Q := by
  obtain ⟨E, τ, r, τ', S, hm, k⟩ := h
  simp only [mUn, Option.bind_eq_some_iff, Option.map_eq_some_iff] at hm
  obtain ⟨⟨ra, τ1⟩, h1, d, h3, z, h5, h6⟩ := hm
  cases h6
  refine ⟨E, τ, ra, _, S, h1, fun x H1 P1 => ?_⟩
  refine ⟨Av E τ1 σ, d, r, fun a q => P1.srep.av_at q, P1.read h3, h5, fun v H3 e3 q => k v H3 ?_⟩
  exact P1.comp (post_step P1.srep e3 q)
theorem se_un {X : Cx} {a : Expr} {ma : M Rs} {f : Dt → Option Rs} {pos : Pos} {op : UnaryOp} (ho : UnR X (unaryOp op) (rUn X.K f)) (ha : SE X a ma) : SE X (.UnaryOp op a pos) (mUn f ma) := ⟨peW (pe_un ho ha.pe) mUn_read⟩
/-! ### arguments -/
/-- what a result is worth while others are reckoned: a new thing is a value from then on -/
def Rs.keep : Rs → Rs
  | .nw d => .v d
  | r => r
def mA0 : M (List Rs) := fun τ => some ([], τ)
def mA (ma : M Rs) (mr : M (List Rs)) : M (List Rs) := fun τ => (ma τ).bind fun p => (mr p.2).map fun q => (p.1.keep :: q.1, q.2)
/-- a result that waits -/
def Wait (K : PySem.W.Frag) (E : AS) (τ : Tau) (σ : L2.St) (H : Hp) (r : Rs) (v : V) : Prop :=
  match r with
  | .v d => Rp K (Av E τ σ) H v d
  | .nw _ => False
  | .sl i => σ[i]? = some (some v) ∧ ∃ d, slD τ i = some d
inductive Waits (K : PySem.W.Frag) (E : AS) (τ : Tau) (σ : L2.St) (H : Hp) : List Rs → List V → Prop
  | nil : Waits K E τ σ H [] []
  | cons {r rs v vs} : Wait K E τ σ H r v → Waits K E τ σ H rs vs → Waits K E τ σ H (r :: rs) (v :: vs)
structure PostA (K : PySem.W.Frag) (E : AS) (τ : Tau) (σ : L2.St) (H : Hp) (rs : List Rs) (τ' : Tau) (vs : List V) (H' : Hp) : Prop where
  ext : Ext (Om τ σ) H H'
  dn : Dn τ τ'
  rep : SRep K E τ' σ H'
  res : Waits K E τ' σ H' rs vs
def aOf (K : PySem.W.Frag) (m : M (List Rs)) : TA := fun σ H Q => ∃ E τ rs τ', SRep K E τ σ H ∧ m τ = some (rs, τ') ∧ ∀ vs H', PostA K E τ σ H rs τ' vs H' → Q vs H'
structure SA (X : Cx) (es : List Expr) (m : M (List Rs)) : Prop where
  pa : PA X es (aOf X.K m)
section
variable {K : PySem.W.Frag} {E E' : AS} {τ τ' τ1 τ2 : Tau} {σ σ' : L2.St} {H H' H1 H2 : Hp} {v x y : V} {d e : Dt} {i : Nat} {r ra rb : Rs}
theorem Post.wait (P : Post K E τ σ H r τ' v H') : Wait K E τ' σ H' r.keep v := by
  cases r with
  | v d => exact P.res.2
  | nw d => exact (P.share (τ1 := τ') rfl).res.2
  | sl i => exact P.res.2
theorem Wait.on {rs : List Rs} {vs : List V} {H2 : Hp} (w : Wait K E τ σ H r v) (P : PostA K E τ σ H rs τ' vs H') : Wait K E τ' σ H' r v := by
  cases r with
  | v d => exact (Rp.mono (O' := Av E τ σ) w (P.ext.wider fun a z => .inr (om_os z)).wk fun a z => .inl z).mono (Ext.refl (O := Av E τ' σ)).wk fun a z => .inl (z.elim .inl fun z => .inr (P.dn.os z))
  | nw d => exact w
  | sl i => exact ⟨w.1, w.2.elim fun d q => P.dn.keeps i d q⟩
theorem Wait.read (S : SRep K E τ σ H) (w : Wait K E τ σ H r v) (h : deref r τ = some d) : Rt K (Av E τ σ) H v d := by
  cases r with
  | v d' => cases h; exact .rp w
  | nw d' => exact w.elim
  | sl i =>
    obtain ⟨v', h2, h3⟩ := S.read h
    rw [w.1] at h2
    cases h2
    exact h3
end
section
variable {X : Cx} {e : Expr} {es : List Expr} {me : M Rs} {m : M (List Rs)}
theorem sa_nil : SA X [] mA0 := by
  refine ⟨⟨fun pos pins s σ H Q I h => pa_nil.run pos pins s σ H Q I ?_⟩⟩
  obtain ⟨E, τ, rs, τ', S, hm, k⟩ := h
  cases hm
  exact k [] H ⟨.refl, .refl, S, .nil⟩
theorem sa_cons (ha : SE X e me) (hr : SA X es m) (hs : starEach (e :: es) X.env = (false, eval e X.env) :: starEach es X.env := by rfl) : SA X (e :: es) (mA me m) := by
  refine ⟨⟨fun pos pins s σ H Q I h => (pa_cons ha.pe hr.pa hs).run pos pins s σ H Q I ?_⟩⟩
  obtain ⟨E, τ, rs, τ', S, hm, k⟩ := h
  simp only [mA, Option.bind_eq_some_iff, Option.map_eq_some_iff] at hm
  obtain ⟨⟨ra, τ1⟩, h1, ⟨rb, τ2⟩, h2, h3⟩ := hm
  cases h3
  refine ⟨E, τ, ra, τ1, S, h1, fun x H1 P1 => ⟨E, τ1, rb, _, P1.srep, h2, fun vs H2 P2 => k _ H2 ?_⟩⟩
  exact ⟨P1.ext.trans P2.ext fun a q => .inl (P1.dn.om q), P1.dn.trans P2.dn, P2.rep, .cons (P1.wait.on (H2 := H2) P2) P2.res⟩
end
/-- all of them -/
def derefs : List Rs → Tau → Option (List Dt)
  | [], _ => some []
  | r :: rs, τ => (deref r τ).bind fun d => (derefs rs τ).map fun ds => d :: ds
inductive Rts (K : PySem.W.Frag) (O : AS) (H : Hp) : List V → List Dt → Prop
  | nil : Rts K O H [] []
  | cons {v d vs ds} : Rt K O H v d → Rts K O H vs ds → Rts K O H (v :: vs) (d :: ds)
theorem Waits.read {K : PySem.W.Frag} {E : AS} {τ : Tau} {σ : L2.St} {H : Hp} (S : SRep K E τ σ H) : ∀ {rs : List Rs} {vs : List V} {ds : List Dt}, Waits K E τ σ H rs vs → derefs rs τ = some ds → Rts K (Av E τ σ) H vs ds
  | _, _, _, .nil, h => by cases h; exact .nil
  | _, _, _, .cons w ws, h => by
    simp only [derefs, Option.bind_eq_some_iff, Option.map_eq_some_iff] at h
    obtain ⟨d, h1, ds, h2, h3⟩ := h
    cases h3
    exact .cons (w.read S h1) (ws.read S h2)
/-! ### calls of builtins -/
def mCall (f : List Dt → Option Rs) (ma : M (List Rs)) : M Rs := fun τ => (ma τ).bind fun p => (derefs p.1 p.2).bind fun ds => (f ds).map fun z => (z, p.2)
def rCall (K : PySem.W.Frag) (f : List Dt → Option Rs) : List V → Hp → VK → Prop := fun xs H Q => ∃ O ds z, (∀ a, O a → H a ≠ none) ∧ Rts K O H xs ds ∧ f ds = some z ∧ ∀ v H', Ext nO H H' → Res K O H z v H' → Q v H'
theorem postA_step {K : PySem.W.Frag} {E : AS} {τ τ' : Tau} {σ : L2.St} {H H' H2 : Hp} {rs : List Rs} {vs : List V} {r : Rs} {v : V} (P : PostA K E τ σ H rs τ' vs H') (e : Ext nO H' H2) (q : Res K (Av E τ' σ) H' r v H2) : Post K E τ σ H r τ' v H2 := by
  have P2 := post_step P.rep e q
  refine ⟨P.ext.trans P2.ext fun a q => .inl (P.dn.om q), P.dn, ?_⟩
  cases r with
  | v d => exact P2.res
  | nw d =>
    obtain ⟨p, e, n, q⟩ := P2.res
    refine ⟨p, e, ?_, q⟩
    cases z : H p with
    | none => rfl
    | some o => exact absurd n (P.ext.dom p (by rw [z]; simp))
  | sl i => exact P2.res
theorem mCall_read {K : PySem.W.Frag} {f : List Dt → Option Rs} {ma : M (List Rs)} (σ : L2.St) (H : Hp) (Q : VK) (h : tOf K (mCall f ma) σ H Q) : tCB (rCall K f) (aOf K ma) σ H Q := by
  obtain ⟨E, τ, r, τ', S, hm, k⟩ := h
  simp only [mCall, Option.bind_eq_some_iff, Option.map_eq_some_iff] at hm
  obtain ⟨⟨ra, τ1⟩, h1, ds, h3, z, h5, h6⟩ := hm
  cases h6
  refine ⟨E, τ, ra, _, S, h1, fun vs H1 P1 => ?_⟩
  exact ⟨Av E τ1 σ, ds, r, fun a q => P1.rep.av_at q, P1.res.read P1.rep h3, h5, fun v H3 e3 q => k v H3 (postA_step P1 e3 q)⟩
section
variable {X : Cx} {x : Str} {e : Expr} {es : List Expr} {f : List Dt → Option Rs} {ma : M (List Rs)} {p pos : Pos} {id T : String}
theorem se_callB (hc : CallR X (.builtin id) (rCall X.K f)) (hg : Gl X x) (hm : X.mg x = none) (hv : bootBuiltins x = some (.builtin id)) (ha : SA X (e :: es) ma) (hn : x ≠ "__name__" := by decide) (hdb : (x == ("__debug__" : Str)) = false := by decide)
    (he : starEach (e :: es) X.env = (false, eval e X.env) :: starEach es X.env := by rfl) (hpl : (backTo pos (starEach es X.env)).any (·.1) = false := by rfl) : SE X (.Call (.Name x p) (e :: es) [] pos) (mCall f ma) :=
  ⟨peW (pe_callB hc hg hm hv ha.pa hn hdb he hpl) mCall_read⟩
theorem se_callTy (hc : CallR X (.type T) (rCall X.K f)) (hg : Gl X x) (hm : X.mg x = none) (hv : bootBuiltins x = some (.type T)) (ha : SA X (e :: es) ma) (hn : x ≠ "__name__" := by decide) (hdb : (x == ("__debug__" : Str)) = false := by decide)
    (he : starEach (e :: es) X.env = (false, eval e X.env) :: starEach es X.env := by rfl) (hpl : (backTo pos (starEach es X.env)).any (·.1) = false := by rfl) : SE X (.Call (.Name x p) (e :: es) [] pos) (mCall f ma) :=
  ⟨peW (pe_callTy hc hg hm hv ha.pa hn hdb he hpl) mCall_read⟩
end
end Iv
set_option Elab.async false
set_option linter.all false
set_option maxRecDepth 100000
set_option maxHeartbeats 1000000
namespace Iv
open PySem L2
variable [Cst]
structure PostB (K : PySem.W.Frag) (E : AS) (τ : Tau) (σ : L2.St) (H : Hp) (τ' : Tau) (H' : Hp) : Prop where
  ext : Ext (Om τ σ) H H'
  dn : Dn τ τ'
  rep : SRep K E τ' σ H'
theorem PostB.comp {K : PySem.W.Frag} {E : AS} {τ τ1 τ2 : Tau} {σ : L2.St} {H H1 H2 : Hp} (a : PostB K E τ σ H τ1 H1) (b : PostB K E τ1 σ H1 τ2 H2) : PostB K E τ σ H τ2 H2 :=
  ⟨a.ext.trans b.ext fun x q => .inl (a.dn.om q), a.dn.trans b.dn, b.rep⟩
theorem PostB.refl {K : PySem.W.Frag} {E : AS} {τ : Tau} {σ : L2.St} {H : Hp} (S : SRep K E τ σ H) : PostB K E τ σ H τ H := ⟨.refl, .refl, S⟩
theorem Post.b {K : PySem.W.Frag} {E : AS} {τ τ' : Tau} {σ : L2.St} {H H' : Hp} {r : Rs} {v : V} (P : Post K E τ σ H r τ' v H') : PostB K E τ σ H τ' H' := ⟨P.ext, P.dn, P.srep⟩
/-- a value behind another step -/
theorem PostB.post {K : PySem.W.Frag} {E : AS} {τ τ1 τ2 : Tau} {σ : L2.St} {H H1 H2 : Hp} {r : Rs} {v : V} (a : PostB K E τ σ H τ1 H1) (P2 : Post K E τ1 σ H1 r τ2 v H2) : Post K E τ σ H r τ2 v H2 := by
  refine ⟨a.ext.trans P2.ext fun x q => .inl (a.dn.om q), a.dn.trans P2.dn, ?_⟩
  cases r with
  | v d => exact P2.res
  | nw d =>
    obtain ⟨p, e, n, q⟩ := P2.res
    refine ⟨p, e, ?_, q⟩
    cases z : H p with
    | none => rfl
    | some o => exact absurd n (a.ext.dom p (by rw [z]; simp))
  | sl i => exact P2.res
def bOf (K : PySem.W.Frag) (m : M Bool) : TT := fun σ H Q => ∃ E τ b τ', SRep K E τ σ H ∧ m τ = some (b, τ') ∧ ∀ H', PostB K E τ σ H τ' H' → Q b H'
structure ST (X : Cx) (e : Expr) (m : M Bool) : Prop where
  pt : PT X e (bOf X.K m)
structure SW (X : Cx) (e : Expr) (m : M Bool) : Prop where
  pw : PW X e (bOf X.K m)
theorem ptW {X : Cx} {e : Expr} {t u : TT} (h : PT X e t) (k : ∀ σ H Q, u σ H Q → t σ H Q) : PT X e u := ⟨fun pins s σ H Q I q => h.run pins s σ H Q I (k σ H Q q)⟩
theorem pwW {X : Cx} {e : Expr} {t u : TT} (h : PW X e t) (k : ∀ σ H Q, u σ H Q → t σ H Q) : PW X e u := ⟨fun wh pins s σ H Q I q => h.run wh pins s σ H Q I (k σ H Q q)⟩
theorem SW.st {X : Cx} {e : Expr} {m : M Bool} (h : SW X e m) : ST X e m := ⟨h.pw.pt⟩
/-! ### truth -/
def dTruth : Dt → Option Bool
  | .none => some false
  | .bool b => some b
  | .int i => some (i != 0)
  | .str x => if x.length ≤ sizeLine then some ((x.length : Int) != 0) else none
  | .list xs => some (!xs.isEmpty)
  | .tuple xs => some (!xs.isEmpty)
  | .dict _ => none
def mTruth (m : M Rs) : M Bool := fun τ => (m τ).bind fun p => (deref p.1 p.2).bind fun d => (dTruth d).map fun b => (b, p.2)
theorem isEmpty_rp {K : PySem.W.Frag} {O : AS} {H : Hp} {xs : List V} {ds : List Dt} (h : RpL K O H xs ds) : ds.isEmpty = xs.isEmpty := by cases h <;> rfl
theorem truV_of {K : PySem.W.Frag} {O : AS} {H : Hp} {v : V} {d : Dt} {b : Bool} (h : Rt K O H v d) (e : dTruth d = some b) : TruV K v H b := by
  cases d with
  | none => rw [rt_none h]; cases e; rfl
  | bool c => rw [rt_bool h]; cases e; rfl
  | int i => rw [rt_int h]; cases e; rfl
  | str x =>
    rw [rt_str h]
    simp only [dTruth] at e
    split at e
    · rename_i hl
      cases e
      exact ⟨hl, rfl⟩
    · cases e
  | list xs =>
    obtain ⟨a, ys, rfl, hs, hr⟩ := rt_list h
    cases e
    exact .inl ⟨ys, hs, by rw [isEmpty_rp hr]⟩
  | tuple xs =>
    obtain ⟨a, ys, rfl, hs, hr⟩ := rt_tuple h
    cases e
    exact .inr (.inl ⟨ys, hs, by rw [isEmpty_rp hr]⟩)
  | dict kvs => cases e
/-- a test that gives a flag -/
def mFlag (m : M Rs) : M Bool := fun τ => (m τ).bind fun p => match p.1 with
  | .v (.bool b) => some (b, p.2)
  | _ => none
theorem mFlag_read {K : PySem.W.Frag} {m : M Rs} (σ : L2.St) (H : Hp) (Q : Bool → Hp → Prop) (h : bOf K (mFlag m) σ H Q) : tTest (tOf K m) σ H Q := by
  obtain ⟨E, τ, b, τ', S, hm, k⟩ := h
  simp only [mFlag, Option.bind_eq_some_iff] at hm
  obtain ⟨⟨r, τ1⟩, h1, h2⟩ := hm
  refine ⟨E, τ, r, τ1, S, h1, fun x H1 P => ?_⟩
  cases r with
  | v d =>
    cases d with
    | bool c =>
      cases h2
      exact ⟨_, rt_bool (.rp P.res.2), k H1 P.b⟩
    | _ => cases h2
  | nw d => cases h2
  | sl i => cases h2
section
variable {X : Cx} {a b c e : Expr} {rest : List Expr} {ma mb mc : M Rs} {ta tb tc : M Bool} {f f2 : Dt → Dt → Option Rs} {pos : Pos}
theorem st_truth (h : SE X e ma) (he : ∀ whole, isTrue e X.env whole = (do let v ← whole; standAt e.pos; holding [v] (truthy v)) := by exact fun _ => rfl) : ST X e (mTruth ma) := by
  refine ⟨ptW (pt_truth h.pe he) fun σ H Q h => ?_⟩
  obtain ⟨E, τ, b, τ', S, hm, k⟩ := h
  simp only [mTruth, Option.bind_eq_some_iff, Option.map_eq_some_iff] at hm
  obtain ⟨⟨r, τ1⟩, h1, d, h2, b', h3, h4⟩ := hm
  cases h4
  exact ⟨E, τ, r, _, S, h1, fun x H1 P => ⟨b, truV_of (P.read h2) h3, k H1 P.b⟩⟩
theorem st_cmp {op : CmpOp} (ho : OpR X (compareOp op) (rBin X.K f)) (ha : SE X a ma) (hb : SE X b mb) (hm : behindInMarks op b = false) : ST X (.Compare a [op] [b] pos) (mFlag (mBin f ma mb)) := by
  refine ⟨ptW (pt_cmpR ho ha.pe hb.pe hm) fun σ H Q h => ?_⟩
  obtain q := mFlag_read σ H Q h
  exact mBin_read σ H _ q
/-! ### a op b op c -/
def mChain (f f2 : Dt → Dt → Option Rs) (ma mb mc : M Rs) : M Rs := fun τ =>
  (ma τ).bind fun p => (mb p.2).bind fun q => (deref p.1 q.2).bind fun d => (deref q.1 q.2).bind fun e => match f d e with
    | some (.v (.bool true)) => (mc q.2).bind fun r => (deref q.1 r.2).bind fun e' => (deref r.1 r.2).bind fun g => (f2 e' g).map fun z => (z, r.2)
    | some (.v (.bool false)) => some (.v (.bool false), q.2)
    | _ => none
theorem mChain_read {K : PySem.W.Frag} (σ : L2.St) (H : Hp) (Q : VK) (h : tOf K (mChain f f2 ma mb mc) σ H Q) : tChain (rBin K f) (rBin K f2) (tOf K ma) (tOf K mb) (tOf K mc) σ H Q := by
  obtain ⟨E, τ, r, τ', S, hm, k⟩ := h
  simp only [mChain, Option.bind_eq_some_iff] at hm
  obtain ⟨⟨ra, τ1⟩, h1, ⟨rb, τ2⟩, h2, d, h3, e, h4, h5⟩ := hm
  refine ⟨E, τ, ra, τ1, S, h1, fun x H1 P1 => ⟨E, τ1, rb, _, P1.srep, h2, fun y H2 P2 => ?_⟩⟩
  split at h5
  · rename_i z
    simp only [Option.bind_eq_some_iff, Option.map_eq_some_iff] at h5
    obtain ⟨⟨rc, τ3⟩, h6, e', h7, g, h8, w, h9, h10⟩ := h5
    cases h10
    refine ⟨Av E τ2 σ, d, e, _, fun a q => P2.srep.av_at q, P1.pend P2 h3, P2.read h4, z, fun v H3 e3 q => ⟨true, rt_bool (.rp q), ?_⟩⟩
    rw [if_pos rfl]
    have B2 : PostB K E τ2 σ H2 τ2 H3 := ⟨e3.wider fun _ z => z.elim, .refl, P2.srep.grow e3⟩
    have P2' : Post K E τ1 σ H1 rb τ2 y H3 := by
      refine ⟨P2.ext.trans B2.ext fun x q => .inl (P2.dn.om q), P2.dn, ?_⟩
      cases rb with
      | v d => exact ⟨B2.rep, P2.res.2.mono (wkAll e3) fun _ z => .inl z⟩
      | nw d =>
        obtain ⟨p, e1, n, nE, S3, w⟩ := P2.res
        exact ⟨p, e1, n, nE, S3.grow e3, w.mono (wkAll e3) (fun _ z => .inl z) (w.stay e3 fun z => z)⟩
      | sl i => exact ⟨B2.rep, P2.res.2⟩
    refine ⟨E, τ2, rc, _, B2.rep, h6, fun g2 H4 P3 => ?_⟩
    refine ⟨Av E τ3 σ, e', g, r, fun a q => P3.srep.av_at q, P2'.pend P3 h7, P3.read h8, h9, fun v H5 e5 q => k v H5 ?_⟩
    exact ((P1.comp P2').comp P3).comp (post_step P3.srep e5 q)
  · rename_i z
    cases h5
    refine ⟨Av E τ2 σ, d, e, _, fun a q => P2.srep.av_at q, P1.pend P2 h3, P2.read h4, z, fun v H3 e3 q => ⟨false, rt_bool (.rp q), ?_⟩⟩
    rw [if_neg Bool.false_ne_true]
    exact k _ H3 ((P1.comp P2).comp (post_step P2.srep e3 (r := .v (.bool false)) (.bl false)))
  · cases h5
theorem se_chain {op op' : CmpOp} (ho : OpR X (compareOp op) (rBin X.K f)) (ho' : OpR X (compareOp op') (rBin X.K f2)) (ha : SE X a ma) (hb : SE X b mb) (hc : SE X c mc)
    (hm : lastMarks [op, op'] [b, c] = false := by with_unfolding_all rfl) : SE X (.Compare a [op, op'] [b, c] pos) (mChain f f2 ma mb mc) := ⟨peW (pe_chain ho ho' ha.pe hb.pe hc.pe hm) mChain_read⟩
theorem st_chain {op op' : CmpOp} (ho : OpR X (compareOp op) (rBin X.K f)) (ho' : OpR X (compareOp op') (rBin X.K f2)) (ha : SE X a ma) (hb : SE X b mb) (hc : SE X c mc)
    (hm : lastMarks [op, op'] [b, c] = false := by with_unfolding_all rfl) : ST X (.Compare a [op, op'] [b, c] pos) (mFlag (mChain f f2 ma mb mc)) :=
  ⟨ptW (pt_chain ho ho' ha.pe hb.pe hc.pe hm) fun σ H Q h => mChain_read σ H _ (mFlag_read σ H Q h)⟩
/-! ### and, or, not, if else -/
def mAnd (ta tb : M Bool) : M Bool := fun τ => (ta τ).bind fun p => if p.1 = true then tb p.2 else some (false, p.2)
def mOr (ta tb : M Bool) : M Bool := fun τ => (ta τ).bind fun p => if p.1 = true then some (true, p.2) else tb p.2
def mNot (ta : M Bool) : M Bool := fun τ => (ta τ).map fun p => (!p.1, p.2)
def mIfE (t : M Bool) (ma mb : M Rs) : M Rs := fun τ => (t τ).bind fun p => if p.1 = true then ma p.2 else mb p.2
def mAndV (ma mb : M Rs) : M Rs := fun τ => (ma τ).bind fun p => match p.1 with
  | .v (.bool true) => mb p.2
  | .v (.bool false) => some (.v (.bool false), p.2)
  | _ => none
def mOrV (ma mb : M Rs) : M Rs := fun τ => (ma τ).bind fun p => match p.1 with
  | .v (.bool false) => mb p.2
  | .v (.bool true) => some (.v (.bool true), p.2)
  | _ => none
def mNotV (ma : M Rs) : M Rs := fun τ => (ma τ).bind fun p => match p.1 with
  | .v (.bool b) => some (.v (.bool !b), p.2)
  | _ => none
theorem sw_and1 (h : ST X a ta) : SW X (.BoolOp .And [a] pos) ta := ⟨pw_and1 h.pt⟩
theorem sw_or1 (h : ST X a ta) : SW X (.BoolOp .Or [a] pos) ta := ⟨pw_or1 h.pt⟩
theorem sw_and (ha : ST X a ta) (hb : SW X (.BoolOp .And (b :: rest) pos) tb) : SW X (.BoolOp .And (a :: b :: rest) pos) (mAnd ta tb) := by
  refine ⟨pwW (pw_and ha.pt hb.pw) fun σ H Q h => ?_⟩
  obtain ⟨E, τ, r, τ', S, hm, k⟩ := h
  simp only [mAnd, Option.bind_eq_some_iff] at hm
  obtain ⟨⟨b1, τ1⟩, h1, h2⟩ := hm
  refine ⟨E, τ, b1, τ1, S, h1, fun H1 P1 => ?_⟩
  cases b1 with
  | true => exact ⟨E, τ1, r, τ', P1.rep, h2, fun H2 P2 => k H2 (P1.comp P2)⟩
  | false => cases h2; exact k H1 P1
theorem sw_or (ha : ST X a ta) (hb : SW X (.BoolOp .Or (b :: rest) pos) tb) : SW X (.BoolOp .Or (a :: b :: rest) pos) (mOr ta tb) := by
  refine ⟨pwW (pw_or ha.pt hb.pw) fun σ H Q h => ?_⟩
  obtain ⟨E, τ, r, τ', S, hm, k⟩ := h
  simp only [mOr, Option.bind_eq_some_iff] at hm
  obtain ⟨⟨b1, τ1⟩, h1, h2⟩ := hm
  refine ⟨E, τ, b1, τ1, S, h1, fun H1 P1 => ?_⟩
  cases b1 with
  | false => exact ⟨E, τ1, r, τ', P1.rep, h2, fun H2 P2 => k H2 (P1.comp P2)⟩
  | true => cases h2; exact k H1 P1
theorem st_not (ha : ST X a ta) : ST X (.UnaryOp .Not a pos) (mNot ta) := by
  refine ⟨ptW (pt_not ha.pt) fun σ H Q h => ?_⟩
  obtain ⟨E, τ, r, τ', S, hm, k⟩ := h
  simp only [mNot, Option.map_eq_some_iff] at hm
  obtain ⟨⟨b1, τ1⟩, h1, h2⟩ := hm
  cases h2
  exact ⟨E, τ, b1, _, S, h1, fun H1 P1 => k H1 P1⟩
theorem se_one {op : BoolOp} (h : SE X a ma) : SE X (.BoolOp op [a] pos) ma := ⟨pe_one h.pe⟩
theorem se_and (ha : SE X a ma) (hb : SE X (.BoolOp .And (b :: rest) pos) mb) : SE X (.BoolOp .And (a :: b :: rest) pos) (mAndV ma mb) := by
  refine ⟨peW (pe_and ha.pe hb.pe) fun σ H Q h => ?_⟩
  obtain ⟨E, τ, r, τ', S, hm, k⟩ := h
  simp only [mAndV, Option.bind_eq_some_iff] at hm
  obtain ⟨⟨b1, τ1⟩, h1, h2⟩ := hm
  refine ⟨E, τ, b1, τ1, S, h1, fun x H1 P1 => ?_⟩
  split at h2
  · rename_i e
    subst e
    exact ⟨true, rt_bool (.rp P1.res.2), ⟨E, τ1, r, τ', P1.srep, h2, fun v H2 P2 => k v H2 (P1.comp P2)⟩⟩
  · rename_i e
    subst e
    cases h2
    have e := rt_bool (.rp P1.res.2)
    subst e
    exact ⟨false, rfl, k _ H1 P1⟩
  · cases h2
theorem se_or (ha : SE X a ma) (hb : SE X (.BoolOp .Or (b :: rest) pos) mb) : SE X (.BoolOp .Or (a :: b :: rest) pos) (mOrV ma mb) := by
  refine ⟨peW (pe_or ha.pe hb.pe) fun σ H Q h => ?_⟩
  obtain ⟨E, τ, r, τ', S, hm, k⟩ := h
  simp only [mOrV, Option.bind_eq_some_iff] at hm
  obtain ⟨⟨b1, τ1⟩, h1, h2⟩ := hm
  refine ⟨E, τ, b1, τ1, S, h1, fun x H1 P1 => ?_⟩
  split at h2
  · rename_i e
    subst e
    exact ⟨false, rt_bool (.rp P1.res.2), ⟨E, τ1, r, τ', P1.srep, h2, fun v H2 P2 => k v H2 (P1.comp P2)⟩⟩
  · rename_i e
    subst e
    cases h2
    have e := rt_bool (.rp P1.res.2)
    subst e
    exact ⟨true, rfl, k _ H1 P1⟩
  · cases h2
theorem se_not (ha : SE X a ma) : SE X (.UnaryOp .Not a pos) (mNotV ma) := by
  refine ⟨peW (pe_not ha.pe) fun σ H Q h => ?_⟩
  obtain ⟨E, τ, r, τ', S, hm, k⟩ := h
  simp only [mNotV, Option.bind_eq_some_iff] at hm
  obtain ⟨⟨b1, τ1⟩, h1, h2⟩ := hm
  refine ⟨E, τ, b1, τ1, S, h1, fun x H1 P1 => ?_⟩
  split at h2
  · rename_i c e
    subst e
    cases h2
    exact ⟨c, rt_bool (.rp P1.res.2), k _ H1 (P1.b.post ⟨.refl, .refl, P1.srep, .bl _⟩)⟩
  · cases h2
theorem se_ifE (hc : ST X c tc) (ha : SE X a ma) (hb : SE X b mb) : SE X (.IfExp c a b pos) (mIfE tc ma mb) := by
  refine ⟨peW (pe_ifExp hc.pt ha.pe hb.pe) fun σ H Q h => ?_⟩
  obtain ⟨E, τ, r, τ', S, hm, k⟩ := h
  simp only [mIfE, Option.bind_eq_some_iff] at hm
  obtain ⟨⟨b1, τ1⟩, h1, h2⟩ := hm
  refine ⟨E, τ, b1, τ1, S, h1, fun H1 P1 => ?_⟩
  cases b1 with
  | true => exact ⟨E, τ1, r, τ', P1.rep, h2, fun v H2 P2 => k v H2 (P1.post P2)⟩
  | false => exact ⟨E, τ1, r, τ', P1.rep, h2, fun v H2 P2 => k v H2 (P1.post P2)⟩
end
end Iv
set_option Elab.async false
set_option linter.all false
set_option maxRecDepth 100000
set_option maxHeartbeats 1000000
namespace Iv
open PySem L2
variable [Cst]
/-- how a statement ends -/
inductive Out where
  | nx | bk | ct | rt (d : Dt) (fr : Bool)
abbrev MS := Tau → Option (Out × Tau)
structure PostS (τ : Tau) (σ : L2.St) (H : Hp) (τ' : Tau) (σ' : L2.St) (H' : Hp) : Prop where
  ext : Ext (Om τ σ) H H'
  os : ∀ a, Os τ' σ' a → Os τ σ a ∨ H a = none
  om : ∀ a, Om τ' σ' a → Om τ σ a ∨ H a = none
  io : ∀ (i : Nat) d, τ[i]? = some (.ow true d) → (∃ d', τ'[i]? = some (.ow true d')) ∧ σ'[i]? = σ[i]?
  lo : ∀ (i : Nat) io d, τ[i]? = some (.lo io d) → τ'[i]? = some (.lo io d) ∧ σ'[i]? = σ[i]?
theorem none_back {O : AS} {H H' : Hp} (e : Ext O H H') {a : Addr} (n : H' a = none) : H a = none := by
  cases z : H a with
  | none => rfl
  | some o => exact absurd n (e.dom a (by rw [z]; simp))
theorem PostS.comp {τ τ1 τ2 : Tau} {σ σ1 σ2 : L2.St} {H H1 H2 : Hp} (a : PostS τ σ H τ1 σ1 H1) (b : PostS τ1 σ1 H1 τ2 σ2 H2) : PostS τ σ H τ2 σ2 H2 := by
  refine ⟨a.ext.trans b.ext a.om, fun x q => (b.os x q).elim (a.os x) fun n => .inr (none_back a.ext n), fun x q => (b.om x q).elim (a.om x) fun n => .inr (none_back a.ext n), fun i d q => ?_, fun i io d q => ?_⟩
  · obtain ⟨⟨d1, h1⟩, h2⟩ := a.io i d q
    obtain ⟨h3, h4⟩ := b.io i d1 h1
    exact ⟨h3, h4.trans h2⟩
  · obtain ⟨h1, h2⟩ := a.lo i io d q
    obtain ⟨h3, h4⟩ := b.lo i io d h1
    exact ⟨h3, h4.trans h2⟩
theorem PostS.refl {τ : Tau} {σ : L2.St} {H : Hp} : PostS τ σ H τ σ H := ⟨.refl, fun _ q => .inl q, fun _ q => .inl q, fun _ d q => ⟨⟨d, q⟩, rfl⟩, fun _ _ _ q => ⟨q, rfl⟩⟩
theorem postS_dn {τ τ' : Tau} {σ : L2.St} {H H' : Hp} (e : Ext (Om τ σ) H H') (dn : Dn τ τ') : PostS τ σ H τ' σ H' := by
  refine ⟨e, fun _ q => .inl (dn.os q), fun _ q => .inl (dn.om q), fun i d q => ?_, fun i io d q => ?_⟩
  · obtain ⟨s', h1, l⟩ := dn.le i _ q
    rcases l with rfl | ⟨io, d1, d', e1, rfl⟩ | ⟨d1, d', e1, rfl⟩
    · exact ⟨⟨d, h1⟩, rfl⟩
    · cases e1; exact ⟨⟨d', h1⟩, rfl⟩
    · cases e1
  · obtain ⟨s', h1, l⟩ := dn.le i _ q
    rcases l with rfl | ⟨io, d1, d', e1, rfl⟩ | ⟨d1, d', e1, rfl⟩
    · exact ⟨h1, rfl⟩
    · cases e1
    · cases e1
theorem PostB.s {K : PySem.W.Frag} {E : AS} {τ τ' : Tau} {σ : L2.St} {H H' : Hp} (P : PostB K E τ σ H τ' H') : PostS τ σ H τ' σ H' := postS_dn P.ext P.dn
/-- what is handed back -/
def RetV (K : PySem.W.Frag) (E : AS) (τ : Tau) (σ : L2.St) (H : Hp) (τ' : Tau) (σ' : L2.St) (H' : Hp) (d : Dt) (fr : Bool) (v : V) : Prop :=
  match fr with
  | false => SRep K E τ' σ' H' ∧ Rp K (Av E τ' σ') H' v d
  | true => ∃ p, v = .ref p ∧ ¬ E p ∧ (Os τ σ p ∨ H p = none) ∧ SRep K (fun a => E a ∨ a = p) τ' σ' H' ∧ Own K (Av (fun a => E a ∨ a = p) τ' σ') H' p d
def SOut (K : PySem.W.Frag) (E : AS) (τ : Tau) (σ : L2.St) (H : Hp) (o : Out) (τ' : Tau) (D : Ends) : Prop :=
  match o with
  | .nx => ∀ σ' H', PostS τ σ H τ' σ' H' → SRep K E τ' σ' H' → D.nx σ' H'
  | .bk => ∀ σ' H', PostS τ σ H τ' σ' H' → SRep K E τ' σ' H' → D.bk σ' H'
  | .ct => ∀ σ' H', PostS τ σ H τ' σ' H' → SRep K E τ' σ' H' → D.ct σ' H'
  | .rt d fr => ∀ σ' H' v, PostS τ σ H τ' σ' H' → RetV K E τ σ H τ' σ' H' d fr v → D.rt v H'
theorem RetV.back {K : PySem.W.Frag} {E : AS} {τ τ1 τ2 : Tau} {σ σ1 σ2 : L2.St} {H H1 H2 : Hp} {d : Dt} {fr : Bool} {v : V} (a : PostS τ σ H τ1 σ1 H1) (r : RetV K E τ1 σ1 H1 τ2 σ2 H2 d fr v) : RetV K E τ σ H τ2 σ2 H2 d fr v := by
  cases fr with
  | false => exact r
  | true =>
    obtain ⟨p, e, n, q, r⟩ := r
    exact ⟨p, e, n, q.elim (a.os p) fun n => .inr (none_back a.ext n), r⟩
theorem SOut.back {K : PySem.W.Frag} {E : AS} {τ τ1 τ2 : Tau} {σ σ1 : L2.St} {H H1 : Hp} {o : Out} {D : Ends} (k : SOut K E τ σ H o τ2 D) (a : PostS τ σ H τ1 σ1 H1) : SOut K E τ1 σ1 H1 o τ2 D := by
  cases o with
  | nx => exact fun σ' H' b S => k σ' H' (a.comp b) S
  | bk => exact fun σ' H' b S => k σ' H' (a.comp b) S
  | ct => exact fun σ' H' b S => k σ' H' (a.comp b) S
  | rt d fr => exact fun σ' H' v b r => k σ' H' v (a.comp b) (r.back a)
def sOf (K : PySem.W.Frag) (m : MS) : TS := fun D σ H => ∃ E τ o τ', SRep K E τ σ H ∧ m τ = some (o, τ') ∧ SOut K E τ σ H o τ' D
structure SS (X : Cx) (st : Stmt) (m : MS) : Prop where
  ps : PS X st (sOf X.K m)
structure SB (X : Cx) (sts : List Stmt) (m : MS) : Prop where
  pss : PSs X sts (sOf X.K m)
theorem psW {X : Cx} {e : Stmt} {t u : TS} (h : PS X e t) (k : ∀ D σ H, u D σ H → t D σ H) : PS X e u := ⟨fun pins s σ H D I q => h.run pins s σ H D I (k D σ H q)⟩
theorem pssW {X : Cx} {e : List Stmt} {t u : TS} (h : PSs X e t) (k : ∀ D σ H, u D σ H → t D σ H) : PSs X e u := ⟨fun pins s σ H D I q => h.run pins s σ H D I (k D σ H q)⟩
/-! ### blocks -/
def mNx : MS := fun τ => some (.nx, τ)
def mBk : MS := fun τ => some (.bk, τ)
def mCt : MS := fun τ => some (.ct, τ)
def mFail : MS := fun _ => none
def mSeq (a b : MS) : MS := fun τ => (a τ).bind fun p => match p.1 with
  | .nx => b p.2
  | o => some (o, p.2)
def mDrop (m : M Rs) : MS := fun τ => (m τ).map fun p => (.nx, p.2)
def mIf (t : M Bool) (a b : MS) : MS := fun τ => (t τ).bind fun p => if p.1 = true then a p.2 else b p.2
def mRet (m : M Rs) : MS := fun τ => (m τ).bind fun p => match p.1 with
  | .v d => some (.rt d false, p.2)
  | .nw d => some (.rt d true, p.2)
  | .sl i => match p.2[i]? with
    | some (.ow false d) => some (.rt d true, p.2.set i .un)
    | some (.sh d) => some (.rt d false, p.2)
    | _ => none
def mRetN : MS := fun τ => some (.rt .none false, τ)
section
variable {K : PySem.W.Frag} {E : AS} {τ τ' : Tau} {σ : L2.St} {H : Hp} {v : V} {d : Dt} {i : Nat} {a : Addr}
/-- a slot's own thing is taken out -/
theorem SRep.drop (S : SRep K E τ σ H) (h : τ[i]? = some (.ow false d)) (hv : σ[i]? = some (some (.ref a))) : SRep K (fun b => E b ∨ b = a) (τ.set i .un) σ H ∧ Own K (Av (fun b => E b ∨ b = a) (τ.set i .un) σ) H a d ∧ ¬ E a := by
  have hi := (List.getElem?_eq_some_iff.mp h).1
  obtain ⟨a', h1, h2, h3⟩ := S.ow i false d h
  rw [hv] at h1
  cases h1
  have old : ∀ {k : Nat} {s : Sl}, (τ.set i .un)[k]? = some s → s.isO = true → τ[k]? = some s ∧ k ≠ i := fun {k s} z1 z2 => by
    by_cases hk : i = k
    · subst hk
      rw [List.getElem?_set_self hi] at z1
      cases z1
      cases z2
    · rw [List.getElem?_set_ne hk] at z1
      exact ⟨z1, Ne.symm hk⟩
  have sub : ∀ b, Av (fun b => E b ∨ b = a) (τ.set i .un) σ b → Av E τ σ b := fun b q => by
    rcases q with (q | q) | ⟨k, s, z1, z2, z3⟩
    · exact .inl q
    · exact .inr ⟨i, _, h, rfl, by rw [q]; exact hv⟩
    · exact .inr ⟨k, s, (old z1 z2).1, z2, z3⟩
  have w : Wk (Av (fun b => E b ∨ b = a) (τ.set i .un) σ) H H := (Ext.refl (O := Av (fun b => E b ∨ b = a) (τ.set i .un) σ)).wk
  have hO := fun b q => (Or.inl (sub b q) : Av E τ σ b ∨ H b = none)
  refine ⟨⟨by rw [List.length_set]; exact S.len, fun b q => q.elim (S.ex b) fun q => ?_, S.tb, fun k d2 q => ?_, fun k io d2 q => ?_, fun k io d2 q => ?_, fun k a q => S.ad k a (ad_set (fun _ z => by cases z) q).1, fun k l s t b q1 q2 q3 q4 q5 q6 => ?_⟩, h3.mono w hO fun _ z => z, h2⟩
  · obtain ⟨o, ho⟩ := h3.at
    rw [q, ho]; simp
  · by_cases hk : i = k
    · subst hk
      rw [List.getElem?_set_self hi] at q
      cases q
    · rw [List.getElem?_set_ne hk] at q
      obtain ⟨v', y1, y2⟩ := S.sh k d2 q
      exact ⟨v', y1, y2.mono w hO⟩
  · obtain ⟨q', hk⟩ := old q rfl
    obtain ⟨b, y1, y2, y3⟩ := S.ow k io d2 q'
    exact ⟨b, y1, fun z => z.elim y2 fun z => hk (S.inj k i _ _ a q' h rfl rfl (by rw [← z]; exact y1) hv), y3.mono w hO fun _ z => z⟩
  · obtain ⟨q', hk⟩ := old q rfl
    obtain ⟨b, y1, y2, y3, y4, y5⟩ := S.lo k io d2 q'
    exact ⟨b, y1, fun z => z.elim y2 fun z => hk (S.inj k i _ _ a q' h rfl rfl (by rw [← z]; exact y1) hv), y3, y4, y5.mono w hO fun b q => .inl fun u r _ => r⟩
  · exact S.inj k l s t b (old q1 q3).1 (old q2 q4).1 q3 q4 q5 q6
/-- a slot is stored: a value -/
def setSl (i : Nat) (s : Sl) (τ : Tau) : Option Tau :=
  match τ[i]? with
  | some .un => some (τ.set i s)
  | some (.sh _) => some (τ.set i s)
  | some (.ow false _) => some (τ.set i s)
  | _ => none
theorem setSl_at {s : Sl} (h : setSl i s τ = some τ') : τ' = τ.set i s ∧ i < τ.length ∧ (∀ d, τ[i]? ≠ some (.ow true d)) ∧ ∀ io d, τ[i]? ≠ some (.lo io d) := by
  unfold setSl at h
  split at h
  · rename_i e
    cases h
    exact ⟨rfl, (List.getElem?_eq_some_iff.mp e).1, (fun d q => by rw [e] at q; cases q), (fun io d q => by rw [e] at q; cases q)⟩
  · rename_i d' e
    cases h
    exact ⟨rfl, (List.getElem?_eq_some_iff.mp e).1, (fun d q => by rw [e] at q; cases q), (fun io d q => by rw [e] at q; cases q)⟩
  · rename_i d' e
    cases h
    exact ⟨rfl, (List.getElem?_eq_some_iff.mp e).1, (fun d q => by rw [e] at q; cases q), (fun io d q => by rw [e] at q; cases q)⟩
  · cases h
theorem SRep.setSh (S : SRep K E τ σ H) (h : setSl i (.sh d) τ = some τ') (r : Rp K (Av E τ σ) H v d) : SRep K E τ' (σ.set i (some v)) H ∧ PostS τ σ H τ' (σ.set i (some v)) H := by
  obtain ⟨rfl, hi, h1, h2⟩ := setSl_at h
  have hs : i < σ.length := by rw [← S.len]; exact hi
  have old : ∀ {k : Nat} {s : Sl}, (τ.set i (.sh d))[k]? = some s → s.isO = true → τ[k]? = some s ∧ k ≠ i := fun {k s} z1 z2 => by
    by_cases hk : i = k
    · subst hk
      rw [List.getElem?_set_self hi] at z1
      cases z1
      cases z2
    · rw [List.getElem?_set_ne hk] at z1
      exact ⟨z1, Ne.symm hk⟩
  have oldσ : ∀ {k : Nat}, k ≠ i → (σ.set i (some v))[k]? = σ[k]? := fun {k} hk => List.getElem?_set_ne (Ne.symm hk)
  have subO : ∀ b, Os (τ.set i (.sh d)) (σ.set i (some v)) b → Os τ σ b := fun b ⟨k, s, z1, z2, z3⟩ => by
    obtain ⟨z4, hk⟩ := old z1 z2
    rw [oldσ hk] at z3
    exact ⟨k, s, z4, z2, z3⟩
  have subM : ∀ b, Om (τ.set i (.sh d)) (σ.set i (some v)) b → Om τ σ b := fun b ⟨k, io, d2, z1, z3⟩ => by
    obtain ⟨z4, hk⟩ := old z1 rfl
    rw [oldσ hk] at z3
    exact ⟨k, io, d2, z4, z3⟩
  have sub : ∀ b, Av E (τ.set i (.sh d)) (σ.set i (some v)) b → Av E τ σ b := fun b q => q.elim .inl fun q => .inr (subO b q)
  have w : Wk (Av E (τ.set i (.sh d)) (σ.set i (some v))) H H := (Ext.refl (O := Av E (τ.set i (.sh d)) (σ.set i (some v)))).wk
  have hO := fun b q => (Or.inl (sub b q) : Av E τ σ b ∨ H b = none)
  refine ⟨⟨by rw [List.length_set, List.length_set]; exact S.len, S.ex, S.tb, fun k d2 q => ?_, fun k io d2 q => ?_, fun k io d2 q => ?_, fun k b q => by obtain ⟨q1, q2⟩ := ad_set (fun _ z => by cases z) q; rw [List.getElem?_set_ne q2]; exact S.ad k b q1, fun k l s t b q1 q2 q3 q4 q5 q6 => ?_⟩, ⟨.refl, fun b q => .inl (subO b q), fun b q => .inl (subM b q), fun k d2 q => ?_, fun k io d2 q => ?_⟩⟩
  · by_cases hk : i = k
    · subst hk
      rw [List.getElem?_set_self hi] at q
      cases q
      exact ⟨v, List.getElem?_set_self hs, r.mono w hO⟩
    · rw [List.getElem?_set_ne hk] at q
      obtain ⟨v', y1, y2⟩ := S.sh k d2 q
      exact ⟨v', by rw [oldσ (Ne.symm hk)]; exact y1, y2.mono w hO⟩
  · obtain ⟨q', hk⟩ := old q rfl
    obtain ⟨b, y1, y2, y3⟩ := S.ow k io d2 q'
    exact ⟨b, by rw [oldσ hk]; exact y1, y2, y3.mono w hO fun _ z => z⟩
  · obtain ⟨q', hk⟩ := old q rfl
    obtain ⟨b, y1, y2, y3, y4, y5⟩ := S.lo k io d2 q'
    exact ⟨b, by rw [oldσ hk]; exact y1, y2, y3, y4, y5.mono w hO fun b q => .inl fun u r _ => r⟩
  · obtain ⟨z1, hk⟩ := old q1 q3
    obtain ⟨z2, hl⟩ := old q2 q4
    rw [oldσ hk] at q5
    rw [oldσ hl] at q6
    exact S.inj k l s t b z1 z2 q3 q4 q5 q6
  · have hk : k ≠ i := fun z => h1 d2 (by rw [← z]; exact q)
    exact ⟨⟨d2, by rw [List.getElem?_set_ne (Ne.symm hk)]; exact q⟩, oldσ hk⟩
  · have hk : k ≠ i := fun z => h2 io d2 (by rw [← z]; exact q)
    exact ⟨by rw [List.getElem?_set_ne (Ne.symm hk)]; exact q, oldσ hk⟩
/-- .. a new thing -/
theorem SRep.setOw (S : SRep K (fun b => E b ∨ b = a) τ σ H) (h : setSl i (.ow false d) τ = some τ') (r : Own K (Av (fun b => E b ∨ b = a) τ σ) H a d) (nE : ¬ E a) : SRep K E τ' (σ.set i (some (.ref a))) H ∧
    (∀ b, Os τ' (σ.set i (some (.ref a))) b → Os τ σ b ∨ b = a) ∧ (∀ b, Om τ' (σ.set i (some (.ref a))) b → Om τ σ b ∨ b = a) ∧
    (∀ (k : Nat) d2, τ[k]? = some (.ow true d2) → τ'[k]? = some (.ow true d2) ∧ (σ.set i (some (.ref a)))[k]? = σ[k]?) ∧ ∀ (k : Nat) io d2, τ[k]? = some (.lo io d2) → τ'[k]? = some (.lo io d2) ∧ (σ.set i (some (.ref a)))[k]? = σ[k]? := by
  obtain ⟨rfl, hi, h1, h2⟩ := setSl_at h
  have hs : i < σ.length := by rw [← S.len]; exact hi
  have old : ∀ {k : Nat} {s : Sl}, k ≠ i → (τ.set i (.ow false d))[k]? = some s → τ[k]? = some s := fun {k s} hk z1 => by
    rw [List.getElem?_set_ne (Ne.symm hk)] at z1
    exact z1
  have oldσ : ∀ {k : Nat}, k ≠ i → (σ.set i (some (.ref a)))[k]? = σ[k]? := fun {k} hk => List.getElem?_set_ne (Ne.symm hk)
  have at' : ∀ {s : Sl} {b : Addr}, (τ.set i (.ow false d))[i]? = some s → (σ.set i (some (V.ref a)))[i]? = some (some (.ref b)) → s = .ow false d ∧ b = a := fun {s b} z1 z2 => by
    rw [List.getElem?_set_self hi] at z1
    rw [List.getElem?_set_self hs] at z2
    cases z1
    cases z2
    exact ⟨rfl, rfl⟩
  have subO : ∀ b, Os (τ.set i (.ow false d)) (σ.set i (some (.ref a))) b → Os τ σ b ∨ b = a := fun b ⟨k, s, z1, z2, z3⟩ => by
    by_cases hk : k = i
    · subst hk
      exact .inr (at' z1 z3).2
    · rw [oldσ hk] at z3
      exact .inl ⟨k, s, old hk z1, z2, z3⟩
  have subM : ∀ b, Om (τ.set i (.ow false d)) (σ.set i (some (.ref a))) b → Om τ σ b ∨ b = a := fun b ⟨k, io, d2, z1, z3⟩ => by
    by_cases hk : k = i
    · subst hk
      exact .inr (at' z1 z3).2
    · rw [oldσ hk] at z3
      exact .inl ⟨k, io, d2, old hk z1, z3⟩
  have sub : ∀ b, Av E (τ.set i (.ow false d)) (σ.set i (some (.ref a))) b → Av (fun b => E b ∨ b = a) τ σ b := fun b q => q.elim (fun q => .inl (.inl q)) fun q => (subO b q).elim .inr fun q => .inl (.inr q)
  have w : Wk (Av E (τ.set i (.ow false d)) (σ.set i (some (.ref a)))) H H := (Ext.refl (O := Av E (τ.set i (.ow false d)) (σ.set i (some (.ref a))))).wk
  have hO := fun b q => (Or.inl (sub b q) : Av (fun b => E b ∨ b = a) τ σ b ∨ H b = none)
  refine ⟨⟨by rw [List.length_set, List.length_set]; exact S.len, fun b q => S.ex b (.inl q), S.tb, fun k d2 q => ?_, fun k io d2 q => ?_, fun k io d2 q => ?_, fun k b q => by obtain ⟨q1, q2⟩ := ad_set (fun _ z => by cases z) q; rw [List.getElem?_set_ne q2]; exact S.ad k b q1, fun k l s t b q1 q2 q3 q4 q5 q6 => ?_⟩, subO, subM, fun k d2 q => ?_, fun k io d2 q => ?_⟩
  · by_cases hk : i = k
    · subst hk
      rw [List.getElem?_set_self hi] at q
      cases q
    · rw [List.getElem?_set_ne hk] at q
      obtain ⟨v', y1, y2⟩ := S.sh k d2 q
      exact ⟨v', by rw [oldσ (Ne.symm hk)]; exact y1, y2.mono w hO⟩
  · by_cases hk : k = i
    · subst hk
      rw [List.getElem?_set_self hi] at q
      cases q
      exact ⟨a, List.getElem?_set_self hs, nE, r.mono w hO fun _ z => z⟩
    · obtain ⟨b, y1, y2, y3⟩ := S.ow k io d2 (old hk q)
      exact ⟨b, by rw [oldσ hk]; exact y1, fun z => y2 (.inl z), y3.mono w hO fun _ z => z⟩
  · by_cases hk : k = i
    · subst hk
      rw [List.getElem?_set_self hi] at q
      cases q
    · obtain ⟨b, y1, y2, y3, y4, y5⟩ := S.lo k io d2 (old hk q)
      exact ⟨b, by rw [oldσ hk]; exact y1, fun z => y2 (.inl z), y3, y4, y5.mono w hO fun b q => .inl fun u r _ => r⟩
  · have far : ∀ {m : Nat} {u : Sl}, m ≠ i → (τ.set i (.ow false d))[m]? = some u → u.isO = true → (σ.set i (some (.ref a)))[m]? = some (some (.ref b)) → b ≠ a := fun {m u} hm z1 z2 z3 z => by
      rw [oldσ hm] at z3
      have z4 : Os τ σ b := ⟨m, u, old hm z1, z2, z3⟩
      exact (S.os_at z4).2 (.inr z)
    by_cases hk : k = i
    · by_cases hl : l = i
      · rw [hk, hl]
      · subst hk
        exact absurd (at' q1 q5).2 (far hl q2 q4 q6)
    · by_cases hl : l = i
      · subst hl
        exact absurd (at' q2 q6).2 (far hk q1 q3 q5)
      · rw [oldσ hk] at q5
        rw [oldσ hl] at q6
        exact S.inj k l s t b (old hk q1) (old hl q2) q3 q4 q5 q6
  · have hk : k ≠ i := fun z => h1 d2 (by rw [← z]; exact q)
    exact ⟨by rw [List.getElem?_set_ne (Ne.symm hk)]; exact q, oldσ hk⟩
  · have hk : k ≠ i := fun z => h2 io d2 (by rw [← z]; exact q)
    exact ⟨by rw [List.getElem?_set_ne (Ne.symm hk)]; exact q, oldσ hk⟩
end
/-! ### the rules -/
def storeR (i : Nat) : Rs → Tau → Option (Out × Tau)
  | .v d, τ => (setSl i (.sh d) τ).map fun τ' => (.nx, τ')
  | .nw d, τ => (setSl i (.ow false d) τ).map fun τ' => (.nx, τ')
  | .sl j, τ => (share (.sl j) τ).bind fun q => (setSl i (.sh q.1) q.2).map fun τ' => (.nx, τ')
def mSet (i : Nat) (m : M Rs) : MS := fun τ => (m τ).bind fun p => storeR i p.1 p.2
section
variable {X : Cx} {st : Stmt} {rest : List Stmt} {a b : List Stmt} {c e : Expr} {ma mb : MS} {me : M Rs} {mt : M Bool} {pos : Pos}
theorem sb_nil : SB X [] mNx := by
  refine ⟨pssW pss_nil fun D σ H h => ?_⟩
  obtain ⟨E, τ, o, τ', S, hm, k⟩ := h
  cases hm
  exact k σ H .refl S
theorem sb_cons (h1 : SS X st ma) (h2 : SB X rest mb) : SB X (st :: rest) (mSeq ma mb) := by
  refine ⟨pssW (pss_cons h1.ps h2.pss) fun D σ H h => ?_⟩
  obtain ⟨E, τ, o, τ', S, hm, k⟩ := h
  simp only [mSeq, Option.bind_eq_some_iff] at hm
  obtain ⟨⟨o1, τ1⟩, h1, h2⟩ := hm
  refine ⟨E, τ, o1, τ1, S, h1, ?_⟩
  cases o1 with
  | nx => exact fun σ1 H1 P1 S1 => ⟨E, τ1, o, τ', S1, h2, k.back P1⟩
  | bk => cases h2; exact k
  | ct => cases h2; exact k
  | rt d fr => cases h2; exact k
theorem sb_one (h1 : SS X st ma) : SB X [st] ma := ⟨pss_one h1.ps⟩
theorem ss_pass : SS X (.Pass pos) mNx := by
  refine ⟨psW ps_pass fun D σ H h => ?_⟩
  obtain ⟨E, τ, o, τ', S, hm, k⟩ := h
  cases hm
  exact k σ H .refl S
theorem ss_break : SS X (.Break pos) mBk := by
  refine ⟨psW ps_break fun D σ H h => ?_⟩
  obtain ⟨E, τ, o, τ', S, hm, k⟩ := h
  cases hm
  exact k σ H .refl S
theorem ss_continue : SS X (.Continue pos) mCt := by
  refine ⟨psW ps_continue fun D σ H h => ?_⟩
  obtain ⟨E, τ, o, τ', S, hm, k⟩ := h
  cases hm
  exact k σ H .refl S
theorem ss_fail : SS X st mFail := ⟨psW ps_never fun D σ H h => by obtain ⟨E, τ, o, τ', S, hm, k⟩ := h; cases hm⟩
theorem ss_expr (he : SE X e me) (hs : swapsWith e none pos.line X.env = pure false := by rfl) : SS X (.Expr e pos) (mDrop me) := by
  refine ⟨psW (ps_expr he.pe hs) fun D σ H h => ?_⟩
  obtain ⟨E, τ, o, τ', S, hm, k⟩ := h
  simp only [mDrop, Option.map_eq_some_iff] at hm
  obtain ⟨⟨r, τ1⟩, h1, h2⟩ := hm
  cases h2
  exact ⟨E, τ, r, _, S, h1, fun v H1 P => k σ H1 P.b.s P.srep⟩
theorem ss_if (hc : ST X c mt) (ha : SB X a ma) (hb : SB X b mb) : SS X (.If c a b pos) (mIf mt ma mb) := by
  refine ⟨psW (ps_if hc.pt ha.pss hb.pss) fun D σ H h => ?_⟩
  obtain ⟨E, τ, o, τ', S, hm, k⟩ := h
  simp only [mIf, Option.bind_eq_some_iff] at hm
  obtain ⟨⟨b1, τ1⟩, h1, h2⟩ := hm
  refine ⟨E, τ, b1, τ1, S, h1, fun H1 P => ?_⟩
  cases b1 with
  | true => exact ⟨E, τ1, o, τ', P.rep, h2, k.back P.s⟩
  | false => exact ⟨E, τ1, o, τ', P.rep, h2, k.back P.s⟩
theorem ss_retN : SS X (.Return none pos) mRetN := by
  refine ⟨psW ps_retN fun D σ H h => ?_⟩
  obtain ⟨E, τ, o, τ', S, hm, k⟩ := h
  cases hm
  exact k σ H _ .refl ⟨S, .non⟩
theorem ss_ret (he : SE X e me) : SS X (.Return (some e) pos) (mRet me) := by
  refine ⟨psW (ps_ret he.pe) fun D σ H h => ?_⟩
  obtain ⟨E, τ, o, τ', S, hm, k⟩ := h
  simp only [mRet, Option.bind_eq_some_iff] at hm
  obtain ⟨⟨r, τ1⟩, h1, h2⟩ := hm
  refine ⟨E, τ, r, τ1, S, h1, fun v H1 P => ?_⟩
  cases r with
  | v d =>
    cases h2
    exact k σ H1 v P.b.s P.res
  | nw d =>
    cases h2
    obtain ⟨p, e, n, nE, S1, w⟩ := P.res
    exact k σ H1 v P.b.s ⟨p, e, nE, .inr n, S1, w⟩
  | sl i =>
    obtain ⟨S1, hv, d', hd'⟩ := P.res
    simp only at h2
    split at h2
    · rename_i d e
      cases h2
      obtain ⟨p, z1, _⟩ := S1.ow i false d e
      rw [hv] at z1
      cases z1
      obtain ⟨S2, w, nE⟩ := S1.drop e hv
      have hi := (List.getElem?_eq_some_iff.mp e).1
      have hO : Os τ σ p := P.dn.os ⟨i, _, e, rfl, hv⟩
      refine k σ H1 _ ⟨P.ext, fun b q => ?_, fun b q => ?_, fun j d2 q => ?_, fun j io d2 q => ?_⟩ ⟨p, rfl, nE, .inl hO, S2, w⟩
      · obtain ⟨j, s, z1, z2, z3⟩ := q
        by_cases hj : i = j
        · subst hj
          rw [List.getElem?_set_self hi] at z1
          cases z1
          cases z2
        · rw [List.getElem?_set_ne hj] at z1
          exact .inl (P.dn.os ⟨j, s, z1, z2, z3⟩)
      · obtain ⟨j, io, d2, z1, z3⟩ := q
        by_cases hj : i = j
        · subst hj
          rw [List.getElem?_set_self hi] at z1
          cases z1
        · rw [List.getElem?_set_ne hj] at z1
          exact .inl (P.dn.om ⟨j, io, d2, z1, z3⟩)
      · obtain ⟨⟨d3, y1⟩, y2⟩ := P.b.s.io j d2 q
        have hj : i ≠ j := fun z => by subst z; rw [e] at y1; cases y1
        exact ⟨⟨d3, by rw [List.getElem?_set_ne hj]; exact y1⟩, y2⟩
      · obtain ⟨y1, y2⟩ := P.b.s.lo j io d2 q
        have hj : i ≠ j := fun z => by subst z; rw [e] at y1; cases y1
        exact ⟨by rw [List.getElem?_set_ne hj]; exact y1, y2⟩
    · rename_i d e
      cases h2
      obtain ⟨v', z1, z2⟩ := S1.sh i d e
      rw [hv] at z1
      cases z1
      exact k σ H1 _ P.b.s ⟨S1, z2⟩
    · cases h2
/-- what comes of a name's store -/
theorem mSet_end {K : PySem.W.Frag} {E : AS} {τ τ1 τ' : Tau} {σ : L2.St} {H H1 : Hp} {r : Rs} {v : V} {i : Nat} {o : Out} {D : Ends} (P : Post K E τ σ H r τ1 v H1) (k : SOut K E τ σ H o τ' D)
    (h : storeR i r τ1 = some (o, τ')) : D.nx (σ.set i (some v)) H1 := by
  cases r with
  | v d =>
    simp only [storeR, Option.map_eq_some_iff] at h
    obtain ⟨τ2, h1, h2⟩ := h
    cases h2
    obtain ⟨S2, P2⟩ := P.res.1.setSh h1 P.res.2
    exact k _ _ (P.b.s.comp P2) S2
  | nw d =>
    simp only [storeR, Option.map_eq_some_iff] at h
    obtain ⟨τ2, h1, h2⟩ := h
    cases h2
    obtain ⟨p, rfl, n, nE, S1, w⟩ := P.res
    obtain ⟨S2, q1, q2, q3, q4⟩ := S1.setOw h1 w nE
    refine k _ _ ⟨P.ext, fun b q => ?_, fun b q => ?_, fun j d2 q => ?_, fun j io d2 q => ?_⟩ S2
    · exact (q1 b q).elim (fun q => .inl (P.dn.os q)) fun q => .inr (by rw [q]; exact n)
    · exact (q2 b q).elim (fun q => .inl (P.dn.om q)) fun q => .inr (by rw [q]; exact n)
    · obtain ⟨⟨d3, y1⟩, y2⟩ := P.b.s.io j d2 q
      obtain ⟨y3, y4⟩ := q3 j d3 y1
      exact ⟨⟨d3, y3⟩, y4⟩
    · obtain ⟨y1, y2⟩ := P.b.s.lo j io d2 q
      exact q4 j io d2 y1
  | sl j =>
    simp only [storeR, Option.bind_eq_some_iff, Option.map_eq_some_iff] at h
    obtain ⟨⟨d, τ2⟩, h1, τ3, h2, h3⟩ := h
    cases h3
    have P' := P.share h1
    obtain ⟨S2, P2⟩ := P'.res.1.setSh h2 P'.res.2
    exact k _ _ (P'.b.s.comp P2) S2
theorem ss_set {i : Nat} {x : Str} {pos' : Pos} (hN : X.N.Nodup) (hi : X.N[i]? = some x) (hx : Loc X.env.scope x) (he : SE X e me) (hs : swapsWith e (some (.Name x pos')) pos.line X.env = pure false := by rfl)
    (hf : X.fn x = true ∨ X.env.scope.names.lookup x = some .local := by first | exact .inl rfl | exact .inr rfl | assumption) : SS X (.Assign [.Name x pos'] e pos) (mSet i me) := by
  refine ⟨psW (ps_set hN hi hx he.pe hs hf) fun D σ H h => ?_⟩
  obtain ⟨E, τ, o, τ', S, hm, k⟩ := h
  simp only [mSet, Option.bind_eq_some_iff] at hm
  obtain ⟨⟨r, τ1⟩, h1, h2⟩ := hm
  exact ⟨E, τ, r, τ1, S, h1, fun v H1 P => mSet_end P k h2⟩
/-- name op= e, on values -/
def mAug (i : Nat) (f : Dt → Dt → Option Dt) (m : M Rs) : MS := fun τ => match τ[i]? with
  | some (.sh d0) => (m τ).bind fun p => (deref p.1 p.2).bind fun d => (f d0 d).bind fun z => (setSl i (.sh z) p.2).map fun τ' => (.nx, τ')
  | _ => none
def rAug (K : PySem.W.Frag) (f : Dt → Dt → Option Dt) : TIp := fun x y H Q => ∃ O d e z, (∀ a, O a → H a ≠ none) ∧ Rt K O H x d ∧ Rt K O H y e ∧ f d e = some z ∧ ∀ v H', Ext nO H H' → Rp K O H' v z → Q v H'
theorem ss_aug {i : Nat} {x : Str} {op : Operator} {f : Dt → Dt → Option Dt} {pos' : Pos} (hN : X.N.Nodup) (hi : X.N[i]? = some x) (hx : Loc X.env.scope x) (he : SE X e me) (ho : PIp X op (rAug X.K f))
    (hf : X.fn x = true ∨ X.env.scope.names.lookup x = some .local := by first | exact .inl rfl | exact .inr rfl | assumption) : SS X (.AugAssign (.Name x pos') op e pos) (mAug i f me) := by
  refine ⟨psW (ps_aug hN hi hx he.pe ho hf) fun D σ H h => ?_⟩
  obtain ⟨E, τ, o, τ', S, hm, k⟩ := h
  unfold mAug at hm
  split at hm
  · rename_i d0 e0
    simp only [Option.bind_eq_some_iff, Option.map_eq_some_iff] at hm
    obtain ⟨⟨r, τ1⟩, h1, d, h2, z, h3, τ2, h4, h5⟩ := hm
    cases h5
    obtain ⟨v0, y1, y2⟩ := S.sh i d0 e0
    refine ⟨v0, y1, E, τ, r, τ1, S, h1, fun v H1 P => ?_⟩
    have r0 : Rp X.K (Av E τ1 σ) H1 v0 d0 := (y2.mono (O' := Av E τ σ) (P.ext.wider fun a z => .inr (om_os z)).wk fun a z => .inl z).mono (Ext.refl (O := Av E τ1 σ)).wk fun a z => .inl (z.elim .inl fun z => .inr (P.dn.os z))
    refine ⟨Av E τ1 σ, d0, d, z, fun a q => P.srep.av_at q, .rp r0, P.read h2, h3, fun w H2 e2 q => ?_⟩
    have P2 := P.comp (post_step P.srep e2 (r := .v z) q)
    obtain ⟨S3, P3⟩ := P2.res.1.setSh h4 P2.res.2
    exact k _ _ (P2.b.s.comp P3) S3
  · cases hm
end
end Iv
set_option Elab.async false
set_option linter.all false
set_option maxRecDepth 100000
set_option maxHeartbeats 1000000
namespace Iv
open PySem L2
variable [Cst]
/-! ### targets -/
abbrev MB := Dt → Tau → Option Tau
/-- nothing else is stored -/
def Only (is : List Nat) (τ : Tau) (σ : L2.St) (τ' : Tau) (σ' : L2.St) : Prop := σ'.length = σ.length ∧ τ'.length = τ.length ∧ ∀ k, k ∉ is → σ'[k]? = σ[k]? ∧ τ'[k]? = τ[k]?
def gOf (K : PySem.W.Frag) (is : List Nat) (b : MB) : TG := fun v σ H Q => ∃ E τ d τ', SRep K E τ σ H ∧ Rp K (Av E τ σ) H v d ∧ b d τ = some τ' ∧ ∀ σ', PostS τ σ H τ' σ' H → SRep K E τ' σ' H → Only is τ σ τ' σ' → Q σ' H
structure SG (X : Cx) (tg : Expr) (is : List Nat) (b : MB) : Prop where
  pg : PG X tg (gOf X.K is b)
def gsOf (K : PySem.W.Frag) (is : List Nat) (b : List Dt → Tau → Option Tau) : TGs := fun vs σ H Q => ∃ E τ ds τ', SRep K E τ σ H ∧ RpL K (Av E τ σ) H vs ds ∧ b ds τ = some τ' ∧ ∀ σ', PostS τ σ H τ' σ' H → SRep K E τ' σ' H → Only is τ σ τ' σ' → Q σ' H
structure SGs (X : Cx) (tgs : List Expr) (is : List Nat) (b : List Dt → Tau → Option Tau) : Prop where
  pgs : PGs X tgs (gsOf X.K is b)
theorem pgW {X : Cx} {e : Expr} {t u : TG} (h : PG X e t) (k : ∀ v σ H Q, u v σ H Q → t v σ H Q) : PG X e u := ⟨fun pins s σ H v w Q I r q => h.run pins s σ H v w Q I r (k v σ H Q q)⟩
theorem pgsW {X : Cx} {e : List Expr} {t u : TGs} (h : PGs X e t) (k : ∀ v σ H Q, u v σ H Q → t v σ H Q) : PGs X e u := ⟨fun pins s σ H v w Q I r q => h.run pins s σ H v w Q I r (k v σ H Q q)⟩
def bName (i : Nat) : MB := fun d τ => setSl i (.sh d) τ
def bNil : List Dt → Tau → Option Tau
  | [], τ => some τ
  | _, _ => none
def bCons (b : MB) (bs : List Dt → Tau → Option Tau) : List Dt → Tau → Option Tau
  | d :: ds, τ => (b d τ).bind fun τ1 => bs ds τ1
  | [], _ => none
def bTup (n : Nat) (bs : List Dt → Tau → Option Tau) : MB
  | .tuple ds, τ => if ds.length = n then bs ds τ else none
  | _, _ => none
section
variable {X : Cx} {e : Expr} {es : List Expr} {is js : List Nat} {b : MB} {bs : List Dt → Tau → Option Tau} {pos : Pos}
theorem sg_name {i : Nat} {x : Str} (hN : X.N.Nodup) (hi : X.N[i]? = some x) (hx : Loc X.env.scope x) (hf : X.fn x = true ∨ X.env.scope.names.lookup x = some .local := by first | exact .inl rfl | exact .inr rfl | assumption) : SG X (.Name x pos) [i] (bName i) := by
  refine ⟨pgW (pg_name hN hi hx hf) fun v σ H Q h => ?_⟩
  obtain ⟨E, τ, d, τ', S, r, hb, k⟩ := h
  obtain ⟨S2, P2⟩ := S.setSh hb r
  obtain ⟨rfl, _⟩ := setSl_at hb
  refine k _ P2 S2 ⟨List.length_set .., List.length_set .., fun j hj => ?_⟩
  have : i ≠ j := fun z => hj (by simp [z])
  exact ⟨List.getElem?_set_ne this, List.getElem?_set_ne this⟩
theorem sgs_nil : SGs X [] [] bNil := by
  refine ⟨pgsW pgs_nil fun v σ H Q h => ?_⟩
  obtain ⟨E, τ, ds, τ', S, r, hb, k⟩ := h
  cases r with
  | nil => cases hb; exact ⟨rfl, k σ .refl S ⟨rfl, rfl, fun _ _ => ⟨rfl, rfl⟩⟩⟩
  | cons a b => cases hb
theorem sgs_cons (h1 : SG X e is b) (h2 : SGs X es js bs) (hs : (assignEach (e :: es) X.env).map (·.2) = assign e X.env :: (assignEach es X.env).map (·.2) := by rfl) : SGs X (e :: es) (is ++ js) (bCons b bs) := by
  refine ⟨pgsW (pgs_cons h1.pg h2.pgs hs) fun v σ H Q h => ?_⟩
  obtain ⟨E, τ, ds, τ', S, r, hb, k⟩ := h
  cases r with
  | nil => cases hb
  | cons r rr =>
    rename_i v vs d ds
    simp only [bCons, Option.bind_eq_some_iff] at hb
    obtain ⟨τ1, h1, h2⟩ := hb
    refine ⟨v, vs, rfl, E, τ, d, τ1, S, r, h1, fun σ1 P1 S1 O1 => ⟨E, τ1, ds, τ', S1, rr.mono (Ext.refl (O := Av E τ1 σ1)).wk ?_, h2, fun σ2 P2 S2 O2 => k σ2 (P1.comp P2) S2 ⟨O2.1.trans O1.1, O2.2.1.trans O1.2.1, fun j hj => ?_⟩⟩⟩
    · intro a q
      rcases q with q | q
      · exact .inl (.inl q)
      · exact (P1.os a q).elim (fun q => .inl (.inr q)) .inr
    · obtain ⟨y1, y2⟩ := O1.2.2 j fun z => hj (List.mem_append_left _ z)
      obtain ⟨y3, y4⟩ := O2.2.2 j fun z => hj (List.mem_append_right _ z)
      exact ⟨y3.trans y1, y4.trans y2⟩
theorem sg_tup {k : Nat} {n : Nat} (hc : X.calm = true) (h : SGs X es is bs) (hn : (assignEach es X.env).length = n := by rfl) (hst : (assignEach es X.env).findIdx? (·.1) = none := by rfl) : SG X (.Tuple es k pos) is (bTup n bs) := by
  refine ⟨pgW (pg_tup hc h.pgs hn hst) fun v σ H Q h => ?_⟩
  obtain ⟨E, τ, d, τ', S, r, hb, k⟩ := h
  unfold bTup at hb
  split at hb
  · rename_i ds
    split at hb
    · rename_i hl
      obtain ⟨a, xs, rfl, hs, hr⟩ := rt_tuple (.rp r)
      exact ⟨a, xs, rfl, hs, by rw [hr.length]; exact hl, E, τ, ds, τ', S, hr, hb, k⟩
    · cases hb
  · cases hb
end
/-! ### what a loop walks -/
def lockI (i : Nat) (τ : Tau) : Option Tau := match τ[i]? with
  | some (.ow io d) => some (τ.set i (.lo io d))
  | _ => none
def unlockI (i : Nat) (τ : Tau) : Option Tau := match τ[i]? with
  | some (.lo io d) => some (τ.set i (.ow io d))
  | _ => none
/-- a result is walked: its items; the slot that is held meanwhile -/
def hold : Rs → M (List Dt × Option Nat)
  | .v (.list ds), τ => some ((ds, none), τ)
  | .v (.tuple ds), τ => some ((ds, none), τ)
  | .nw (.list ds), τ => some ((ds, none), τ)
  | .sl i, τ => match τ[i]? with
    | some (.ow _ (.list ds)) => (lockI i τ).map fun τ' => ((ds, some i), τ')
    | some (.lo _ (.list ds)) => some ((ds, none), τ)
    | some (.sh (.list ds)) => some ((ds, none), τ)
    | some (.sh (.tuple ds)) => some ((ds, none), τ)
    | _ => none
  | _, _ => none
def unhold : Option Nat → Tau → Option Tau
  | none, τ => some τ
  | some i, τ => unlockI i τ
/-- the items come, one behind the other, while what is known stays -/
def WalkD (K : PySem.W.Frag) (E : AS) (τ : Tau) (σ : L2.St) (J : It) (items : List Dt) (H0 : Hp) : Prop :=
  ∃ Y, Walk J items.length (fun H => Ext (Om τ σ) H0 H) Y ∧ ∀ (i : Nat) H x H' d, items[i]? = some d → Ext (Om τ σ) H0 H → Y i H x H' → Ext nO H H' ∧ ∀ O', Wk O' H0 H' → (∀ a, O' a → Av E τ σ a ∨ H0 a = none) → Rp K O' H' x d
structure PostW (K : PySem.W.Frag) (E : AS) (τ : Tau) (σ : L2.St) (H : Hp) (items : List Dt) (lk : Option Nat) (τ' : Tau) (J : It) (H' : Hp) : Prop where
  ext : Ext (Om τ σ) H H'
  os : ∀ a, Os τ' σ a → Os τ σ a
  om : ∀ a, Om τ' σ a → Om τ σ a
  io : ∀ (i : Nat) d, τ[i]? = some (.ow true d) → (lk ≠ some i ∧ ∃ d', τ'[i]? = some (.ow true d')) ∨ (lk = some i ∧ ∃ d', τ'[i]? = some (.lo true d'))
  lo : ∀ (i : Nat) io d, τ[i]? = some (.lo io d) → τ'[i]? = some (.lo io d) ∧ lk ≠ some i
  rep : SRep K E τ' σ H'
  held : ∀ (i : Nat), lk = some i → ∃ io d0 d a, τ[i]? = some (.ow io d0) ∧ τ'[i]? = some (.lo io d) ∧ σ[i]? = some (some (.ref a)) ∧ Own K (Av E τ' σ) H' a d
  walk : WalkD K E τ' σ J items H'
  dn : ∃ τ0, Dn τ τ0 ∧ (lk = none → τ' = τ0) ∧ ∀ i, lk = some i → lockI i τ0 = some τ'
def iOf (K : PySem.W.Frag) (ms : M (List Dt × Option Nat)) : TI := fun σ H R => ∃ E τ items lk τ', SRep K E τ σ H ∧ ms τ = some ((items, lk), τ') ∧ ∀ J H', PostW K E τ σ H items lk τ' J H' → R J H'
structure SI (X : Cx) (tg iter : Expr) (ms : M (List Dt × Option Nat)) : Prop where
  pi : PI X tg iter (iOf X.K ms)
theorem piW {X : Cx} {tg iter : Expr} {t u : TI} (h : PI X tg iter t) (k : ∀ σ H R, u σ H R → t σ H R) : PI X tg iter u := ⟨fun pins s σ H R I q => h.run pins s σ H R I (k σ H R q)⟩
section
variable {K : PySem.W.Frag} {E : AS} {τ τ' τ1 : Tau} {σ σ' : L2.St} {H H' H1 : Hp} {v : V} {d : Dt} {i : Nat} {a : Addr}
/-- a slot's thing is held -/
theorem SRep.lock (S : SRep K E τ σ H) (h : lockI i τ = some τ') : SRep K E τ' σ H ∧ (∀ b, Os τ' σ b → Os τ σ b) ∧ (∀ b, Om τ' σ b → Om τ σ b) ∧ ∃ io d a, τ[i]? = some (.ow io d) ∧ τ' = τ.set i (.lo io d) ∧ σ[i]? = some (some (.ref a)) ∧ Own K (Av E τ' σ) H a d := by
  unfold lockI at h
  split at h
  · rename_i io d e
    cases h
    have hi := (List.getElem?_eq_some_iff.mp e).1
    have subO : ∀ b, Os (τ.set i (.lo io d)) σ b → Os τ σ b := fun b ⟨k, s, z1, z2, z3⟩ => by
      by_cases hk : i = k
      · subst hk
        exact ⟨i, _, e, rfl, z3⟩
      · rw [List.getElem?_set_ne hk] at z1
        exact ⟨k, s, z1, z2, z3⟩
    have subM : ∀ b, Om (τ.set i (.lo io d)) σ b → Om τ σ b := fun b ⟨k, io2, d2, z1, z3⟩ => by
      by_cases hk : i = k
      · subst hk
        rw [List.getElem?_set_self hi] at z1
        cases z1
      · rw [List.getElem?_set_ne hk] at z1
        exact ⟨k, io2, d2, z1, z3⟩
    have w : Wk (Av E (τ.set i (.lo io d)) σ) H H := (Ext.refl (O := Av E (τ.set i (.lo io d)) σ)).wk
    have hO : ∀ b, Av E (τ.set i (.lo io d)) σ b → Av E τ σ b ∨ H b = none := fun b q => .inl (q.elim .inl fun z => .inr (subO b z))
    obtain ⟨a, h1, h2, h3⟩ := S.ow i io d e
    have w3 : Own K (Av E (τ.set i (.lo io d)) σ) H a d := h3.mono w hO fun _ z => z
    refine ⟨⟨by rw [List.length_set]; exact S.len, S.ex, S.tb, fun k d2 q => ?_, fun k io2 d2 q => ?_, fun k io2 d2 q => ?_, fun k a q => S.ad k a (ad_set (fun _ z => by cases z) q).1, fun k l s t b q1 q2 q3 q4 q5 q6 => ?_⟩, subO, subM, io, d, a, e, rfl, h1, w3⟩
    · by_cases hk : i = k
      · subst hk
        rw [List.getElem?_set_self hi] at q
        cases q
      · rw [List.getElem?_set_ne hk] at q
        obtain ⟨v', y1, y2⟩ := S.sh k d2 q
        exact ⟨v', y1, y2.mono w hO⟩
    · by_cases hk : i = k
      · subst hk
        rw [List.getElem?_set_self hi] at q
        cases q
      · rw [List.getElem?_set_ne hk] at q
        obtain ⟨b, y1, y2, y3⟩ := S.ow k io2 d2 q
        exact ⟨b, y1, y2, y3.mono w hO fun _ z => z⟩
    · by_cases hk : i = k
      · subst hk
        rw [List.getElem?_set_self hi] at q
        cases q
        obtain ⟨o, ho⟩ := h3.at
        exact ⟨a, h1, h2, by rw [ho]; simp, h3.mu, w3.rt⟩
      · rw [List.getElem?_set_ne hk] at q
        obtain ⟨b, y1, y2, y3, y4, y5⟩ := S.lo k io2 d2 q
        exact ⟨b, y1, y2, y3, y4, y5.mono w hO fun b q => .inl fun u r _ => r⟩
    · have ns : ∀ (m : Nat) (s : Sl), (τ.set i (.lo io d))[m]? = some s → s.isO = true → ∃ s', τ[m]? = some s' ∧ s'.isO = true := fun m s z1 z2 => by
        by_cases hk : i = m
        · subst hk
          exact ⟨_, e, rfl⟩
        · rw [List.getElem?_set_ne hk] at z1
          exact ⟨s, z1, z2⟩
      obtain ⟨s', y1, y2⟩ := ns k s q1 q3
      obtain ⟨t', y3, y4⟩ := ns l t q2 q4
      exact S.inj k l s' t' b y1 y3 y2 y4 q5 q6
  · cases h
/-- it is let go: it stands as it stood -/
theorem SRep.unlock (S : SRep K E τ σ H) (h : unlockI i τ = some τ') {io : Bool} (e : τ[i]? = some (.lo io d)) (hv : σ[i]? = some (some (.ref a))) (r : Own K (Av E τ σ) H a d) :
    SRep K E τ' σ H ∧ (∀ b, Os τ' σ b → Os τ σ b) ∧ (∀ b, Om τ' σ b → Om τ σ b ∨ b = a) ∧ τ' = τ.set i (.ow io d) := by
  unfold unlockI at h
  rw [e] at h
  cases h
  have hi := (List.getElem?_eq_some_iff.mp e).1
  have subO : ∀ b, Os (τ.set i (.ow io d)) σ b → Os τ σ b := fun b ⟨k, s, z1, z2, z3⟩ => by
    by_cases hk : i = k
    · subst hk
      exact ⟨i, _, e, rfl, z3⟩
    · rw [List.getElem?_set_ne hk] at z1
      exact ⟨k, s, z1, z2, z3⟩
  have subM : ∀ b, Om (τ.set i (.ow io d)) σ b → Om τ σ b ∨ b = a := fun b ⟨k, io2, d2, z1, z3⟩ => by
    by_cases hk : i = k
    · subst hk
      rw [hv] at z3
      cases z3
      exact .inr rfl
    · rw [List.getElem?_set_ne hk] at z1
      exact .inl ⟨k, io2, d2, z1, z3⟩
  have w : Wk (Av E (τ.set i (.ow io d)) σ) H H := (Ext.refl (O := Av E (τ.set i (.ow io d)) σ)).wk
  have hO : ∀ b, Av E (τ.set i (.ow io d)) σ b → Av E τ σ b ∨ H b = none := fun b q => .inl (q.elim .inl fun z => .inr (subO b z))
  obtain ⟨a', h1, h2, _⟩ := S.lo i io d e
  rw [hv] at h1
  cases h1
  refine ⟨⟨by rw [List.length_set]; exact S.len, S.ex, S.tb, fun k d2 q => ?_, fun k io2 d2 q => ?_, fun k io2 d2 q => ?_, fun k a q => S.ad k a (ad_set (fun _ z => by cases z) q).1, fun k l s t b q1 q2 q3 q4 q5 q6 => ?_⟩, subO, subM, rfl⟩
  · by_cases hk : i = k
    · subst hk
      rw [List.getElem?_set_self hi] at q
      cases q
    · rw [List.getElem?_set_ne hk] at q
      obtain ⟨v', y1, y2⟩ := S.sh k d2 q
      exact ⟨v', y1, y2.mono w hO⟩
  · by_cases hk : i = k
    · subst hk
      rw [List.getElem?_set_self hi] at q
      cases q
      exact ⟨a, hv, h2, r.mono w hO fun _ z => z⟩
    · rw [List.getElem?_set_ne hk] at q
      obtain ⟨b, y1, y2, y3⟩ := S.ow k io2 d2 q
      exact ⟨b, y1, y2, y3.mono w hO fun _ z => z⟩
  · by_cases hk : i = k
    · subst hk
      rw [List.getElem?_set_self hi] at q
      cases q
    · rw [List.getElem?_set_ne hk] at q
      obtain ⟨b, y1, y2, y3, y4, y5⟩ := S.lo k io2 d2 q
      exact ⟨b, y1, y2, y3, y4, y5.mono w hO fun b q => .inl fun u r _ => r⟩
  · have ns : ∀ (m : Nat) (s : Sl), (τ.set i (.ow io d))[m]? = some s → s.isO = true → ∃ s', τ[m]? = some s' ∧ s'.isO = true := fun m s z1 z2 => by
      by_cases hk : i = m
      · subst hk
        exact ⟨_, e, rfl⟩
      · rw [List.getElem?_set_ne hk] at z1
        exact ⟨s, z1, z2⟩
    obtain ⟨s', y1, y2⟩ := ns k s q1 q3
    obtain ⟨t', y3, y4⟩ := ns l t q2 q4
    exact S.inj k l s' t' b y1 y3 y2 y4 q5 q6
/-- the end of a walk: what was held is let go -/
theorem end_walk {items : List Dt} {lk : Option Nat} {τ2 τ3 : Tau} {σ2 : L2.St} {J : It} {H2 : Hp} {E2 : AS} (P : PostW K E τ σ H items lk τ1 J H1) (Q : PostS τ1 σ H1 τ2 σ2 H2) (S2 : SRep K E2 τ2 σ2 H2) (hE : ∀ a, E2 a → Av E τ1 σ a ∨ H1 a = none) (h : unhold lk τ2 = some τ3) :
    PostS τ σ H τ3 σ2 H2 ∧ SRep K E2 τ3 σ2 H2 ∧ ∀ b, Os τ3 σ2 b → Os τ2 σ2 b := by
  have base : ∀ τ3, (∀ b, Os τ3 σ2 b → Os τ2 σ2 b) → (∀ b, Om τ3 σ2 b → Om τ2 σ2 b ∨ ∃ i io d, lk = some i ∧ τ[i]? = some (.ow io d) ∧ σ[i]? = some (some (.ref b))) → (∀ (i : Nat), lk ≠ some i → τ3[i]? = τ2[i]?) →
      (∀ (i : Nat) d, lk = some i → τ2[i]? = some (.lo true d) → τ3[i]? = some (.ow true d)) → PostS τ σ H τ3 σ2 H2 := by
    intro τ3 hO hM he hl
    have k : Ext (Om τ1 σ) H1 H2 := Q.ext
    refine ⟨P.ext.trans k fun x q => .inl (P.om x q), fun x q => (Q.os x (hO x q)).elim (fun q => .inl (P.os x q)) fun n => .inr (none_back P.ext n), fun x q => ?_, fun i d q => ?_, fun i io d q => ?_⟩
    · rcases hM x q with q | ⟨i, io, d, _, h1, h2⟩
      · exact (Q.om x q).elim (fun q => .inl (P.om x q)) fun n => .inr (none_back P.ext n)
      · exact .inl ⟨i, io, d, h1, h2⟩
    · rcases P.io i d q with ⟨h1, d', h2⟩ | ⟨h1, d', h2⟩
      · obtain ⟨⟨d2, h3⟩, h4⟩ := Q.io i d' h2
        exact ⟨⟨d2, by rw [he i h1]; exact h3⟩, h4⟩
      · obtain ⟨h3, h4⟩ := Q.lo i true d' h2
        exact ⟨⟨d', hl i d' h1 h3⟩, h4⟩
    · obtain ⟨h1, h2⟩ := P.lo i io d q
      obtain ⟨h3, h4⟩ := Q.lo i io d h1
      exact ⟨by rw [he i h2]; exact h3, h4⟩
  cases lk with
  | none =>
    cases h
    exact ⟨base τ2 (fun _ z => z) (fun _ z => .inl z) (fun _ _ => rfl) (fun _ _ z => by cases z), S2, fun _ z => z⟩
  | some i =>
    obtain ⟨io, d0, d, a, h0, h1, h2, w⟩ := P.held i rfl
    obtain ⟨h3, h4⟩ := Q.lo i io d h1
    have hv : σ2[i]? = some (some (.ref a)) := by rw [h4]; exact h2
    have nM : ¬ Om τ1 σ a := fun ⟨k, io2, d2, z1, z2⟩ => by
      have e := P.rep.inj k i _ _ a z1 h1 rfl rfl z2 h2
      subst e
      rw [h1] at z1
      cases z1
    have w2 : Own K (Av E2 τ2 σ2) H2 a d := by
      have w0 : Own K (fun b => Av E τ1 σ b ∨ Av E2 τ2 σ2 b) H2 a d := by
        refine w.mono (Q.ext.wider fun x z => .inl (.inr (om_os z))).wk (fun b q => ?_) (w.stay Q.ext nM)
        rcases q with q | q | q
        · exact .inl q
        · exact hE b q
        · exact (Q.os b q).elim (fun q => .inl (.inr q)) .inr
      exact w0.av fun b q => .inr q
    obtain ⟨S3, hO, hM, e3⟩ := S2.unlock h h3 hv w2
    have hi := (List.getElem?_eq_some_iff.mp h3).1
    refine ⟨base τ3 hO (fun b q => (hM b q).elim .inl fun q => ?_) (fun k hk => ?_) (fun k d2 e q => ?_), S3, hO⟩
    · exact .inr ⟨i, io, d0, rfl, h0, by rw [q]; exact h2⟩
    · rw [e3, List.getElem?_set_ne (fun z => hk (by rw [z]))]
    · cases e
      rw [h3] at q
      cases q
      rw [e3, List.getElem?_set_self hi]
end
end Iv
set_option Elab.async false
set_option linter.all false
set_option maxRecDepth 100000
set_option maxHeartbeats 1000000
namespace Iv
open PySem L2
/-! ### iterators that hand out new tuples -/
/-- n rows, while G stands -/
def Jt (n : Nat) (G : Hp → Prop) (rows : Nat → List V) : It :=
  ⟨fun i H => G H ∧ i < n, fun i H v H' => ∃ T, v = .ref T ∧ H T = none ∧ H' = upd H T (.tup (rows i)), fun i H => G H ∧ i = n⟩
theorem turn_of {P : Program} {w : World} {K : PySem.W.Frag} {tg : Expr} {n : Nat} {G : Hp → Prop} {rows : Nat → List V} {fp wr fpA : List Addr} {it : Addr} {tn : Nat → Heap → Prop}
    (mem : it ∈ fp) (sub : ∀ b ∈ wr, b ∈ fp) (obj : ∀ i h, tn i h → ∀ b ∈ fp, ∃ o, h.get? b = some o ∧ ∀ v, o.data ≠ .cell v)
    (keep : ∀ i h h', tn i h → (∀ b ∈ fp, ∀ o, h.get? b = some o → h'.get? b = some o) → tn i h') (small : ∀ i, (rows i).length ≤ sizeLine)
    (step : ∀ (X : Cx), X.prog = P → X.w = w → X.K = K → X.calm = true → ∀ (pins : List (Addr × Obj)) (s : Shared) (σ : L2.St) (H : Hp), Inv X pins σ H s → G H → (∀ b ∈ fp, FpOk X pins H b) →
      ∃ (fp2 : List Addr) (Y : Nat → Heap → Value → Heap → Prop) (St : Nat → Heap → Prop), GoesN P w X.A tg it fp2 wr n Y St ∧ (∀ i, tn i s.heap → St i s.heap) ∧ (∀ i h, St i h → tn i h) ∧
        ∀ i v h', i < n → Y i s.heap v h' → ∃ T us, v = .ref T ∧ s.heap.objs.size ≤ T ∧ h'.IsTuple T us ∧ Vals (rows i) us.toList)
    (self : ∀ (A : Around) (i : Nat) (s : Shared) (Q : Value → Shared → Prop) (E : Value → Shared → Prop), tn i s.heap → Q (.ref it) s → wpAny (model P w) A (pyIter (.ref it)) Q E s) : Turn P w K tg (Jt n G rows) fp it tn where
  mem := mem
  obj := obj
  keep := keep
  item := by
    intro X hP hw hK hc i pins s σ H E I hf st hg
    obtain ⟨hg, hi⟩ := hg
    obtain ⟨fp2, Y, St, W, h1, h2, h3⟩ := step X hP hw hK hc pins s σ H I hg hf
    subst hP hw hK
    refine W.goes i s _ E hi (h1 i st) fun v h' tk hY hst hk _ => ?_
    obtain ⟨T, us, rfl, hT, hI, rv⟩ := h3 i v h' hi hY
    have lt : ∀ b ∈ fp, b < s.heap.objs.size := fun b hb => by
      obtain ⟨o, ho, _⟩ := obj i _ st b hb
      exact Heap.lt_size ho
    obtain ⟨o, ho, hcl, n', hd⟩ := hI
    have new : ObjOk X.prog X.w (upd H T (.tup (rows i))) h' T (.tup (rows i)) := ⟨small i, us.toList, rv, ⟨o, ho, hcl, n', by rw [hd]⟩⟩
    refine ⟨.ref T, _, I.turnedNew (ch := wr) hk (fun b hb => hf b (sub b hb)) hT new, rfl, ⟨T, rfl, I.hok.fresh hT, rfl⟩, h2 _ _ hst, fun b hb => ?_⟩
    rw [upd_ne (Nat.ne_of_lt (Nat.lt_of_lt_of_le (lt b hb) hT))]
    exact (hf b hb).1
  done := by
    intro X hP hw hK hc i pins s σ H E I hf st hg
    obtain ⟨hg, rfl⟩ := hg
    obtain ⟨fp2, Y, St, W, h1, h2, h3⟩ := step X hP hw hK hc pins s σ H I hg hf
    subst hP hw hK
    exact W.stops s _ E (h1 _ st) fun h' tk hk _ => I.turnedL (ch := wr) hk fun b hb => hf b (sub b hb)
  self := self
theorem walk_of_rows {n : Nat} {G : Hp → Prop} {rows : Nat → List V} : Walk (Jt n G rows) n G (fun i H x H' => ∃ T, x = .ref T ∧ H T = none ∧ H' = upd H T (.tup (rows i))) :=
  ⟨fun i H hi g => ⟨g, hi⟩, fun H g => ⟨g, rfl⟩, fun i H x H' _ _ y => y⟩
/-! ### what is walked inside: a list, a tuple -/
/-- a list (tp false) or tuple (tp true) of xs stands at a -/
def Sq (K : PySem.W.Frag) (H : Hp) (tp : Bool) (a : Addr) (xs : List V) : Prop := match tp with
  | false => SqL K H a xs
  | true => SqT K H a xs
def itO (tp : Bool) (a : Addr) : Obj := { cls := .type (if tp then "tuple_iterator" else "list_iterator"), data := .fields #[.ref a, .int 0 0] }
def ItAt (h : Heap) (tp : Bool) (it a : Addr) (i : Nat) : Prop := match tp with
  | false => h.IsListIter it a i
  | true => h.IsTupleIter it a i
def IsSq (h : Heap) (tp : Bool) (a : Addr) (its : Array Value) : Prop := match tp with
  | false => h.IsList a its
  | true => h.IsTuple a its
theorem sq_at {X : Cx} {pins : List (Addr × Obj)} {σ : L2.St} {H : Hp} {s : Shared} {tp : Bool} {a : Addr} {xs : List V} (I : Inv X pins σ H s) (h : Sq X.K H tp a xs) : ∃ its : Array Value, Vals xs its.toList ∧ IsSq s.heap tp a its ∧ xs.length ≤ sizeLine := by
  cases tp with
  | false =>
    obtain ⟨its, r, p, z⟩ := I.list h
    exact ⟨its.toArray, by simpa using r, p.isList, z⟩
  | true =>
    obtain ⟨its, r, p, z⟩ := I.tuple h
    exact ⟨its.toArray, by simpa using r, p, z⟩
theorem IsSq.lt {h : Heap} {tp : Bool} {a : Addr} {its : Array Value} (x : IsSq h tp a its) : a < h.objs.size := by
  cases tp with
  | false => obtain ⟨o, e, _⟩ := x; exact Heap.lt_size e
  | true => obtain ⟨o, e, _⟩ := x; exact Heap.lt_size e
theorem draws_sq {prog : Program} {w : World} {A : Around} (hh : A.handled = none) (tp : Bool) (it a : Addr) (hne : a ≠ it) (its : Array Value) :
    Draws prog w A it [it, a] its.size (fun i v => its[i]? = some v) (fun i h => ItAt h tp it a i ∧ IsSq h tp a its) := by
  cases tp with
  | false => exact Draws.list hh it a hne its
  | true => exact Draws.tuple hh it a hne its
theorem begins_sq (tp : Bool) (a : Addr) (its : Array Value) : Begins (.ref a) (itO tp a) fun h => IsSq h tp a its := by
  cases tp with
  | false => exact begins_list a its
  | true => exact begins_tuple a its
theorem itAt_new {h : Heap} {tp : Bool} {it a : Addr} (e : h.get? it = some (itO tp a)) : ItAt h tp it a 0 := by
  cases tp with
  | false => exact ⟨_, e, rfl, rfl⟩
  | true => exact ⟨_, e, rfl, rfl⟩
theorem ItAt.at {h h' : Heap} {tp : Bool} {it a : Addr} {i : Nat} (x : ItAt h tp it a i) (k : ∀ o, h.get? it = some o → h'.get? it = some o) : ItAt h' tp it a i := by
  cases tp with
  | false => obtain ⟨o, e, r⟩ := x; exact ⟨o, k o e, r⟩
  | true => obtain ⟨o, e, r⟩ := x; exact ⟨o, k o e, r⟩
theorem ItAt.obj {h : Heap} {tp : Bool} {it a : Addr} {i : Nat} (x : ItAt h tp it a i) : ∃ o, h.get? it = some o ∧ ∀ v, o.data ≠ .cell v := by
  cases tp with
  | false => obtain ⟨o, e, _, d⟩ := x; exact ⟨o, e, fun v q => by rw [d] at q; cases q⟩
  | true => obtain ⟨o, e, _, d⟩ := x; exact ⟨o, e, fun v q => by rw [d] at q; cases q⟩
theorem vals_at {xs : List V} {its : Array Value} (r : Vals xs its.toList) {i : Nat} {u : Value} (h : its[i]? = some u) : RelV (xs.getD i .non) u := by
  have hi : i < its.size := by
    rcases Nat.lt_or_ge i its.size with z | z
    · exact z
    · rw [Array.getElem?_eq_none z] at h; cases h
  have hl : i < xs.length := by rw [r.length]; simpa using hi
  obtain ⟨u', h1, h2⟩ := r.get (List.getElem?_eq_getElem hl)
  have : u' = u := by
    rw [Array.getElem?_toList, h] at h1
    exact (Option.some.inj h1).symm
  subst this
  rw [List.getD_eq_getElem?_getD, List.getElem?_eq_getElem hl]
  exact h2
/-! ### enumerate -/
/-- enumerate(a, k): rows (k + i, xs[i]) -/
theorem turn_enumK {P : Program} {w : World} {K : PySem.W.Frag} {elts : List Expr} {kk : Nat} {tpos : Pos} (tp : Bool) (a e it : Addr) (k : Int) (xs : List V) (hne : e ≠ it) (hea : e ≠ a) (hai : a ≠ it) :
    Turn P w K (.Tuple elts kk tpos) (Jt xs.length (fun H => Sq K H tp a xs) fun i => [.int (k + i), xs.getD i .non]) [e, it] e (fun i h => (∃ old, IsEnum h e it (k + (i : Int)) old) ∧ ItAt h tp it a i) := by
  refine turn_of (wr := [e, it]) (fpA := []) (by simp) (fun _ h => h) (fun i h st b hb => ?_) (fun i h h' st kp => ?_) (fun i => by show 2 ≤ sizeLine; decide) (fun X hP hw hK hc pins s σ H I g hf => ?_) fun A i s Q E h => let ⟨⟨_, he⟩, _⟩ := h; wpAny_pyIter_enum he
  · obtain ⟨⟨old, he⟩, hit⟩ := st
    have e' : b = e ∨ b = it := by simpa using hb
    rcases e' with z | z
    · rw [z]; exact ⟨_, he, fun v q => nomatch q⟩
    · rw [z]; exact hit.obj
  · obtain ⟨⟨old, he⟩, hit⟩ := st
    exact ⟨⟨old, kp e (by simp) _ he⟩, hit.at fun o q => kp it (by simp) o q⟩
  · subst hP hw hK
    obtain ⟨its, rv, p, hz⟩ := sq_at I g
    have hl : xs.length = its.size := by rw [rv.length]; simp
    have D := draws_sq (prog := X.prog) (w := X.w) (A := X.A.in1) (I.ok.hd hc) tp it a hai its
    refine ⟨_, _, _, hl ▸ GoesN.enumFrom k D e hne (by simp [hne, hea]) (by simp), fun i st => ⟨st.1, st.2, p⟩, fun i h st => ⟨st.1, st.2.1⟩, fun i v h' hi hY => ?_⟩
    obtain ⟨T, t, x, rfl, hT, hx, hI⟩ := hY
    exact ⟨T, _, rfl, hT, hI, .cons ⟨_, rfl⟩ (.cons (vals_at rv hx) .nil)⟩
/-! ### zip -/
theorem turn_zipK {P : Program} {w : World} {K : PySem.W.Frag} {elts : List Expr} {kk : Nat} {tpos : Pos} (N : Nat) (tp1 tp2 : Bool) (a b : Addr) (xs ys : List V) (ha : a < N) (hb : b < N) :
    Turn P w K (.Tuple elts kk tpos) (Jt (min xs.length ys.length) (fun H => Sq K H tp1 a xs ∧ Sq K H tp2 b ys) fun i => [xs.getD i .non, ys.getD i .non]) [N + 4, N + 2, N + 3, N, N + 1] (N + 4)
      (fun i h => IsZip h (N + 4) (N + 2) (N + 3) .none ∧ IsTupOf2 h (N + 2) (.ref N) (.ref (N + 1)) ∧ (∃ a1 a2, IsTupOf2 h (N + 3) a1 a2) ∧ ItAt h tp1 N a i ∧ ItAt h tp2 (N + 1) b i) := by
  refine turn_of (wr := [N + 4, N + 3, N, N + 1]) (fpA := []) (by simp) (fun c h => by simp at h ⊢; rcases h with h | h | h | h <;> simp [h]) (fun i h st c hc => ?_) (fun i h h' st kp => ?_) (fun i => by show 2 ≤ sizeLine; decide) (fun X hP hw hK hc pins s σ H I g hf => ?_) fun A i s Q E h => wpAny_pyIter_zip h.1
  · obtain ⟨h1, h2, ⟨_, _, h3⟩, h4, h5⟩ := st
    have e' : c = N + 4 ∨ c = N + 2 ∨ c = N + 3 ∨ c = N ∨ c = N + 1 := by simpa using hc
    rcases e' with z | z | z | z | z
    · rw [z]; exact ⟨_, h1, fun v q => nomatch q⟩
    · rw [z]; exact ⟨_, h2, fun v q => nomatch q⟩
    · rw [z]; exact ⟨_, h3, fun v q => nomatch q⟩
    · rw [z]; exact h4.obj
    · rw [z]; exact h5.obj
  · obtain ⟨h1, h2, ⟨a1, a2, h3⟩, h4, h5⟩ := st
    exact ⟨kp _ (by simp) _ h1, kp _ (by simp) _ h2, ⟨a1, a2, kp _ (by simp) _ h3⟩, h4.at fun o q => kp N (by simp) o q, h5.at fun o q => kp (N + 1) (by simp) o q⟩
  · subst hP hw hK
    obtain ⟨its, rv, p, hz⟩ := sq_at I g.1
    obtain ⟨its2, rv2, p2, hz2⟩ := sq_at I g.2
    have hl : xs.length = its.size := by rw [rv.length]; simp
    have hl2 : ys.length = its2.size := by rw [rv2.length]; simp
    have S := zip_sep2 (N := N) (fp1 := [a]) (fp2 := [b]) (fun c hc => by have : c = a := by simpa using hc
                                                                          rw [this]; exact ha) (fun c hc => by have : c = b := by simpa using hc
                                                                                                               rw [this]; exact hb)
    have D1 := draws_sq (prog := X.prog) (w := X.w) (A := X.A.in1) (I.ok.hd hc) tp1 N a (Nat.ne_of_lt ha) its
    have D2 := draws_sq (prog := X.prog) (w := X.w) (A := X.A.in1) (I.ok.hd hc) tp2 (N + 1) b (Nat.ne_of_lt (Nat.lt_succ_of_lt hb)) its2
    have W := GoesN.zip2 (elts := elts) (x1 := kk) (pos := tpos) S D1 D2
    rw [← hl, ← hl2] at W
    refine ⟨_, _, _, W, fun i st => ⟨st.1, st.2.1, st.2.2.1, ⟨st.2.2.2.1, p⟩, ⟨st.2.2.2.2, p2⟩⟩, fun i h st => ⟨st.1, st.2.1, st.2.2.1, st.2.2.2.1.1, st.2.2.2.2.1⟩, fun i v h' hi hY => ?_⟩
    obtain ⟨T, x, y, rfl, hT, hx, hy, hI⟩ := hY
    exact ⟨T, _, rfl, hT, hI, .cons (vals_at rv hx) (.cons (vals_at rv2 hy) .nil)⟩
theorem turn_zip3K {P : Program} {w : World} {K : PySem.W.Frag} {elts : List Expr} {kk : Nat} {tpos : Pos} (N : Nat) (tp1 tp2 tp3 : Bool) (a b c : Addr) (xs ys zs : List V) (ha : a < N) (hb : b < N) (hc : c < N) :
    Turn P w K (.Tuple elts kk tpos) (Jt (min (min xs.length ys.length) zs.length) (fun H => Sq K H tp1 a xs ∧ Sq K H tp2 b ys ∧ Sq K H tp3 c zs) fun i => [xs.getD i .non, ys.getD i .non, zs.getD i .non]) [N + 5, N + 3, N + 4, N, N + 1, N + 2] (N + 5)
      (fun i h => IsZip h (N + 5) (N + 3) (N + 4) .none ∧ IsTupOf3 h (N + 3) (.ref N) (.ref (N + 1)) (.ref (N + 2)) ∧ (∃ a1 a2 a3, IsTupOf3 h (N + 4) a1 a2 a3) ∧ ItAt h tp1 N a i ∧ ItAt h tp2 (N + 1) b i ∧ ItAt h tp3 (N + 2) c i) := by
  refine turn_of (wr := [N + 5, N + 4, N, N + 1, N + 2]) (fpA := []) (by simp) (fun c h => by simp at h ⊢; rcases h with h | h | h | h | h <;> simp [h]) (fun i h st c hc => ?_) (fun i h h' st kp => ?_) (fun i => by show 3 ≤ sizeLine; decide) (fun X hP hw hK hcm pins s σ H I g hf => ?_) fun A i s Q E h => wpAny_pyIter_zip h.1
  · obtain ⟨h1, h2, ⟨_, _, _, h3⟩, h4, h5, h6⟩ := st
    have e' : c = N + 5 ∨ c = N + 3 ∨ c = N + 4 ∨ c = N ∨ c = N + 1 ∨ c = N + 2 := by simpa using hc
    rcases e' with z | z | z | z | z | z
    · rw [z]; exact ⟨_, h1, fun v q => nomatch q⟩
    · rw [z]; exact ⟨_, h2, fun v q => nomatch q⟩
    · rw [z]; exact ⟨_, h3, fun v q => nomatch q⟩
    · rw [z]; exact h4.obj
    · rw [z]; exact h5.obj
    · rw [z]; exact h6.obj
  · obtain ⟨h1, h2, ⟨a1, a2, a3, h3⟩, h4, h5, h6⟩ := st
    exact ⟨kp _ (by simp) _ h1, kp _ (by simp) _ h2, ⟨a1, a2, a3, kp _ (by simp) _ h3⟩, h4.at fun o q => kp N (by simp) o q, h5.at fun o q => kp (N + 1) (by simp) o q, h6.at fun o q => kp (N + 2) (by simp) o q⟩
  · subst hP hw hK
    obtain ⟨its, rv, p, hz⟩ := sq_at I g.1
    obtain ⟨its2, rv2, p2, hz2⟩ := sq_at I g.2.1
    obtain ⟨its3, rv3, p3, hz3⟩ := sq_at I g.2.2
    have hl : xs.length = its.size := by rw [rv.length]; simp
    have hl2 : ys.length = its2.size := by rw [rv2.length]; simp
    have hl3 : zs.length = its3.size := by rw [rv3.length]; simp
    have one : ∀ {x y : Addr}, x < N → y ∈ [x] → y < N := fun {x y} h hy => by
      have : y = x := by simpa using hy
      rw [this]; exact h
    have S := zip_sep3 (N := N) (fp1 := [a]) (fp2 := [b]) (fp3 := [c]) (fun _ => one ha) (fun _ => one hb) (fun _ => one hc)
    have D1 := draws_sq (prog := X.prog) (w := X.w) (A := X.A.in1) (I.ok.hd hcm) tp1 N a (Nat.ne_of_lt ha) its
    have D2 := draws_sq (prog := X.prog) (w := X.w) (A := X.A.in1) (I.ok.hd hcm) tp2 (N + 1) b (Nat.ne_of_lt (Nat.lt_succ_of_lt hb)) its2
    have D3 := draws_sq (prog := X.prog) (w := X.w) (A := X.A.in1) (I.ok.hd hcm) tp3 (N + 2) c (Nat.ne_of_lt (Nat.lt_succ_of_lt (Nat.lt_succ_of_lt hc))) its3
    have W := GoesN.zip3 (elts := elts) (x1 := kk) (pos := tpos) S D1 D2 D3
    rw [← hl, ← hl2, ← hl3] at W
    refine ⟨_, _, _, W, fun i st => ⟨st.1, st.2.1, st.2.2.1, ⟨st.2.2.2.1, p⟩, ⟨st.2.2.2.2.1, p2⟩, ⟨st.2.2.2.2.2, p3⟩⟩, fun i h st => ⟨st.1, st.2.1, st.2.2.1, st.2.2.2.1.1, st.2.2.2.2.1.1, st.2.2.2.2.2.1⟩, fun i v h' hi hY => ?_⟩
    obtain ⟨T, x, y, z, rfl, hT, hx, hy, hz, hI⟩ := hY
    exact ⟨T, _, rfl, hT, hI, .cons (vals_at rv hx) (.cons (vals_at rv2 hy) (.cons (vals_at rv3 hz) .nil))⟩
end Iv
set_option Elab.async false
set_option linter.all false
set_option maxRecDepth 100000
set_option maxHeartbeats 2000000
namespace Iv
open PySem L2 PyProof.Rows
variable [Cst]
/-- enumerate(v), v whatever -/
theorem meetsEnum1 {v : Value} {ob : Obj} {HH : Heap → Prop} (B : Begins v ob HH) :
    Meets (Builtin.«enumerate.__new__» ⟨[.type "enumerate", v], []⟩) (fun _ R st => HH st.heap ∧
      R (.ok (.ret (.ref (st.heap.push ob).objs.size))) { st with heap := (st.heap.push ob).push { cls := .type "enumerate", data := .fields #[.none, .bool false, .ref st.heap.objs.size, rawInt 0, .none, .none] } }) :=
  .of_wp fun prog w A R st hyp => by
    obtain ⟨hp, g, d, tk, os⟩ := st
    obtain ⟨h1, hyp⟩ := hyp
    have hsub := sub_enumerate
    have it0 : ∀ {A' : Around} {E : Value → Shared → Prop} {Q : Value → Shared → Prop}, Q (.ref hp.objs.size) ⟨hp.push ob, g, d, tk, os⟩ → wpAny (model prog w) A' (pyIter v) Q E ⟨hp, g, d, tk, os⟩ := fun q => B.iter prog w _ _ ⟨hp, g, d, tk, os⟩ _ h1 q
    wp_walk using it0
    refine wpAny_stack_any fun stk => wpAny_pure ?_
    split
    · rename_i c _ _ _ _ _
      cases (c == Value.type "enumerate") <;> (wp_walk using it0; exact ⟨_, rfl, hyp⟩)
    · wp_walk using it0
      exact ⟨_, rfl, hyp⟩
theorem enum_begin0 {prog : Program} {w : World} {A : Around} {E : Value → Shared → Prop} {s : Shared} {v : Value} {ob : Obj} {HH : Heap → Prop} {Q : Value → Shared → Prop} (B : Begins v ob HH) (h1 : HH s.heap)
    (k : ∀ h', IsEnum h' (s.heap.objs.size + 1) s.heap.objs.size 0 .none → h'.get? s.heap.objs.size = some ob → h'.objs.size = s.heap.objs.size + 2 →
      (∀ b o, s.heap.get? b = some o → h'.get? b = some o) → Q (.ref (s.heap.objs.size + 1)) { s with heap := h' }) : wpAny (model prog w) A (call (.type "enumerate") [v]) Q E s := by
  refine callType_new F.called_enumerate (by decide) (F.typeCall_enumerate_1 _) (F.newCall_enumerate_1 _) (fun obj => F.args_object_init_2 obj _) F.entry_enumerate_new (meetsEnum1 B) ⟨h1, ?_⟩
  have z1 : (s.heap.push ob).objs.size = s.heap.objs.size + 1 := Heap.size_push ..
  show _ ∧ _
  rw [z1]
  have he : IsEnum ((s.heap.push ob).push { cls := .type "enumerate", data := .fields #[.none, .bool false, .ref s.heap.objs.size, rawInt 0, .none, .none] }) (s.heap.objs.size + 1) s.heap.objs.size 0 .none := by
    have q := Heap.get?_push_size (s.heap.push ob) (o := { cls := .type "enumerate", data := .fields #[.none, .bool false, .ref s.heap.objs.size, rawInt 0, .none, .none] }) rfl
    rw [z1] at q
    exact q
  exact ⟨⟨_, he, rfl⟩, k _ he (Heap.get?_push_of_some _ (Heap.get?_push_size _ B.free)) (by rw [Heap.size_push, z1]) fun b o x => Heap.get?_push_of_some _ (Heap.get?_push_of_some _ x)⟩
/-! ### enumerate, zip as what a loop walks -/
abbrev jEnum (K : PySem.W.Frag) (k : Int) (tp : Bool) (a : Addr) (xs : List V) : It := Jt xs.length (fun H => Sq K H tp a xs) fun i => [.int (k + i), xs.getD i .non]
def iEnum1 (K : PySem.W.Frag) (ta : TA) : TI := fun σ H R => ta σ H fun vs H1 => ∃ tp a xs, vs = [.ref a] ∧ Sq K H1 tp a xs ∧ R (jEnum K 0 tp a xs) H1
def iEnum2 (K : PySem.W.Frag) (ta : TA) : TI := fun σ H R => ta σ H fun vs H1 => ∃ tp a xs k, vs = [.ref a, .int k] ∧ -(2 ^ 63) ≤ k ∧ k < 2 ^ 63 ∧ Sq K H1 tp a xs ∧ R (jEnum K k tp a xs) H1
abbrev jZip2 (K : PySem.W.Frag) (tp1 tp2 : Bool) (a b : Addr) (xs ys : List V) : It := Jt (min xs.length ys.length) (fun H => Sq K H tp1 a xs ∧ Sq K H tp2 b ys) fun i => [xs.getD i .non, ys.getD i .non]
def iZip2 (K : PySem.W.Frag) (ta : TA) : TI := fun σ H R => ta σ H fun vs H1 => ∃ tp1 tp2 a b xs ys, vs = [.ref a, .ref b] ∧ Sq K H1 tp1 a xs ∧ Sq K H1 tp2 b ys ∧ R (jZip2 K tp1 tp2 a b xs ys) H1
abbrev jZip3 (K : PySem.W.Frag) (tp1 tp2 tp3 : Bool) (a b c : Addr) (xs ys zs : List V) : It := Jt (min (min xs.length ys.length) zs.length) (fun H => Sq K H tp1 a xs ∧ Sq K H tp2 b ys ∧ Sq K H tp3 c zs) fun i => [xs.getD i .non, ys.getD i .non, zs.getD i .non]
def iZip3 (K : PySem.W.Frag) (ta : TA) : TI := fun σ H R => ta σ H fun vs H1 => ∃ tp1 tp2 tp3 a b c xs ys zs, vs = [.ref a, .ref b, .ref c] ∧ Sq K H1 tp1 a xs ∧ Sq K H1 tp2 b ys ∧ Sq K H1 tp3 c zs ∧ R (jZip3 K tp1 tp2 tp3 a b c xs ys zs) H1
section
variable {X : Cx} {e e2 e3 : Expr} {ta : TA} {p pos tpos : Pos} {elts : List Expr} {kk : Nat}
theorem fp_new {pins : List (Addr × Obj)} {σ : L2.St} {H : Hp} {s : Shared} (I : Inv X pins σ H s) {fp : List Addr} (h : ∀ b ∈ fp, s.heap.objs.size ≤ b) : ∀ b ∈ fp, FpOk X pins H b := fun b hb => I.fpOk (h b hb) (I.hok.fresh (h b hb))
theorem pi_enum1 (hg : Gl X "enumerate") (hm : X.mg "enumerate" = none) (ha : PA X [e] ta) (hs : starEach [e] X.env = [(false, eval e X.env)] := by rfl) :
    PI X (.Tuple elts kk tpos) (.Call (.Name "enumerate" p) [e] [] pos) (iEnum1 X.K ta) := by
  refine ⟨fun pins s σ H R I h => Call_ (ld_blt I hg hm boot_enumerate (PyProof.Rows.callWith_type1 (thn (ha.run pos pins s σ H _ I h) fun us s1 ⟨vs, H1, I1, r1, q1⟩ => ?_) hs rfl))⟩
  obtain ⟨tp, a, xs, rfl, hq, q⟩ := q1
  obtain ⟨its, rv, pq, hz⟩ := sq_at I1 hq
  cases r1 with
  | cons r rr =>
    cases rr
    cases r
    refine enum_begin0 (begins_sq tp a its) pq fun h' he hit hsz hk => wpAny_pyIter_enum he ?_
    have I2 : Inv X pins σ H1 { s1 with heap := h' } := I1.kept (t' := s1.toks) hk
    have la : a < s1.heap.objs.size := pq.lt
    have hne : s1.heap.objs.size + 1 ≠ s1.heap.objs.size := Nat.succ_ne_self _
    refine ⟨s1.heap.objs.size + 1, [s1.heap.objs.size + 1, s1.heap.objs.size], _, _, H1, rfl, I2, turn_enumK tp a (s1.heap.objs.size + 1) s1.heap.objs.size 0 xs hne (Nat.ne_of_gt (Nat.lt_succ_of_lt la)) (Nat.ne_of_lt la), ⟨⟨.none, he⟩, itAt_new hit⟩, fp_new I1 fun b hb => ?_, q⟩
    have e' : b = s1.heap.objs.size + 1 ∨ b = s1.heap.objs.size := by simpa using hb
    rcases e' with z | z <;> (rw [z]; first | exact Nat.le_add_right _ _ | exact Nat.le_refl _)
theorem pi_enum2 (hg : Gl X "enumerate") (hm : X.mg "enumerate" = none) (ha : PA X [e, e2] ta) (hs : starEach [e, e2] X.env = (false, eval e X.env) :: starEach [e2] X.env := by rfl) (hpl : (backTo pos (starEach [e2] X.env)).any (·.1) = false := by rfl) :
    PI X (.Tuple elts kk tpos) (.Call (.Name "enumerate" p) [e, e2] [] pos) (iEnum2 X.K ta) := by
  refine ⟨fun pins s σ H R I h => wpAny_Call_Name_kw (ld_blt I hg hm boot_enumerate (PyProof.Rows.callWith_type1 (thn (ha.run pos pins s σ H _ I h) fun us s1 ⟨vs, H1, I1, r1, q1⟩ => ?_) hs hpl))⟩
  obtain ⟨tp, a, xs, k, rfl, k0, k1, hq, q⟩ := q1
  obtain ⟨its, rv, pq, hz⟩ := sq_at I1 hq
  cases r1 with
  | cons r rr =>
    cases rr with
    | cons r2 rr =>
      cases rr
      cases r
      obtain ⟨t, rfl⟩ := r2
      refine enum_begins (begins_sq tp a its) pq k0 k1 fun h' he hit hsz hk => wpAny_pyIter_enum he ?_
      have I2 : Inv X pins σ H1 { s1 with heap := h' } := I1.kept (t' := s1.toks) hk
      have la : a < s1.heap.objs.size := pq.lt
      have hne : s1.heap.objs.size + 1 ≠ s1.heap.objs.size := Nat.succ_ne_self _
      have e0 : k + ((0 : Nat) : Int) = k := by omega
      refine ⟨s1.heap.objs.size + 1, [s1.heap.objs.size + 1, s1.heap.objs.size], _, _, H1, rfl, I2, turn_enumK tp a (s1.heap.objs.size + 1) s1.heap.objs.size k xs hne (Nat.ne_of_gt (Nat.lt_succ_of_lt la)) (Nat.ne_of_lt la), ⟨⟨.none, by rw [e0]; exact he⟩, itAt_new hit⟩, fp_new I1 fun b hb => ?_, q⟩
      have e' : b = s1.heap.objs.size + 1 ∨ b = s1.heap.objs.size := by simpa using hb
      rcases e' with z | z <;> (rw [z]; first | exact Nat.le_add_right _ _ | exact Nat.le_refl _)
theorem pi_zip2 (hg : Gl X "zip") (hm : X.mg "zip" = none) (ha : PA X [e, e2] ta) (hs : starEach [e, e2] X.env = (false, eval e X.env) :: starEach [e2] X.env := by rfl) (hpl : (backTo pos (starEach [e2] X.env)).any (·.1) = false := by rfl) :
    PI X (.Tuple elts kk tpos) (.Call (.Name "zip" p) [e, e2] [] pos) (iZip2 X.K ta) := by
  refine ⟨fun pins s σ H R I h => wpAny_Call_Name_kw (ld_blt (u := Value.type "zip") I hg hm (by decide +kernel) (PyProof.Rows.callWith_type1 (thn (ha.run pos pins s σ H _ I h) fun us s1 ⟨vs, H1, I1, r1, q1⟩ => ?_) hs hpl))⟩
  obtain ⟨tp1, tp2, a, b, xs, ys, rfl, hq, hq2, q⟩ := q1
  obtain ⟨its, rv, pq, hz⟩ := sq_at I1 hq
  obtain ⟨its2, rv2, pq2, hz2⟩ := sq_at I1 hq2
  cases r1 with
  | cons r rr =>
    cases rr with
    | cons r2 rr =>
      cases rr
      cases r
      cases r2
      refine zip_begins2 (begins_sq tp1 a its) (begins_sq tp2 b its2) pq pq2 fun h' h1 h2 h3 h4 h5 hsz hk => wpAny_pyIter_zip h1 ?_
      have I2 : Inv X pins σ H1 { s1 with heap := h' } := I1.kept (t' := s1.toks) hk
      refine ⟨s1.heap.objs.size + 4, _, _, _, H1, rfl, I2, turn_zipK s1.heap.objs.size tp1 tp2 a b xs ys pq.lt pq2.lt, ⟨h1, h2, ⟨_, _, h3⟩, itAt_new h4, itAt_new h5⟩, fp_new I1 fun c hc => ?_, q⟩
      have e' : c = s1.heap.objs.size + 4 ∨ c = s1.heap.objs.size + 2 ∨ c = s1.heap.objs.size + 3 ∨ c = s1.heap.objs.size ∨ c = s1.heap.objs.size + 1 := by simpa using hc
      rcases e' with z | z | z | z | z <;> (rw [z]; first | exact Nat.le_add_right _ _ | exact Nat.le_refl _)
theorem pi_zip3 (hg : Gl X "zip") (hm : X.mg "zip" = none) (ha : PA X [e, e2, e3] ta) (hs : starEach [e, e2, e3] X.env = (false, eval e X.env) :: starEach [e2, e3] X.env := by rfl) (hpl : (backTo pos (starEach [e2, e3] X.env)).any (·.1) = false := by rfl) :
    PI X (.Tuple elts kk tpos) (.Call (.Name "zip" p) [e, e2, e3] [] pos) (iZip3 X.K ta) := by
  refine ⟨fun pins s σ H R I h => wpAny_Call_Name_kw (ld_blt (u := Value.type "zip") I hg hm (by decide +kernel) (PyProof.Rows.callWith_type1 (thn (ha.run pos pins s σ H _ I h) fun us s1 ⟨vs, H1, I1, r1, q1⟩ => ?_) hs hpl))⟩
  obtain ⟨tp1, tp2, tp3, a, b, c, xs, ys, zs, rfl, hq, hq2, hq3, q⟩ := q1
  obtain ⟨its, rv, pq, hz⟩ := sq_at I1 hq
  obtain ⟨its2, rv2, pq2, hz2⟩ := sq_at I1 hq2
  obtain ⟨its3, rv3, pq3, hz3⟩ := sq_at I1 hq3
  cases r1 with
  | cons r rr =>
    cases rr with
    | cons r2 rr =>
      cases rr with
      | cons r3 rr =>
        cases rr
        cases r
        cases r2
        cases r3
        refine zip_begins3 (begins_sq tp1 a its) (begins_sq tp2 b its2) (begins_sq tp3 c its3) pq pq2 pq3 fun h' h1 h2 h3 h4 h5 h6 hsz hk => wpAny_pyIter_zip h1 ?_
        have I2 : Inv X pins σ H1 { s1 with heap := h' } := I1.kept (t' := s1.toks) hk
        refine ⟨s1.heap.objs.size + 5, _, _, _, H1, rfl, I2, turn_zip3K s1.heap.objs.size tp1 tp2 tp3 a b c xs ys zs pq.lt pq2.lt pq3.lt, ⟨h1, h2, ⟨_, _, _, h3⟩, itAt_new h4, itAt_new h5, itAt_new h6⟩, fp_new I1 fun c hc => ?_, q⟩
        have e' : c = s1.heap.objs.size + 5 ∨ c = s1.heap.objs.size + 3 ∨ c = s1.heap.objs.size + 4 ∨ c = s1.heap.objs.size ∨ c = s1.heap.objs.size + 1 ∨ c = s1.heap.objs.size + 2 := by simpa using hc
        rcases e' with z | z | z | z | z | z <;> (rw [z]; first | exact Nat.le_add_right _ _ | exact Nat.le_refl _)
end
/-! ### the same by values -/
theorem ext_sq {K : PySem.W.Frag} {O : AS} {H H' : Hp} {tp : Bool} {a : Addr} {xs : List V} (e : Ext O H H') (h : Sq K H tp a xs) (n : tp = false → ¬ O a) (nt : ∀ o, H a ≠ some (.frz o (.tup xs))) : Sq K H' tp a xs := by
  cases tp with
  | false => exact h.elim (fun r => .inl (e.rd (n rfl) r)) .inr
  | true => exact h.elim (fun r => r.elim (fun r => .inl (.inl (e.tup _ _ r))) fun ⟨o, r⟩ => by exact absurd r (nt o)) .inr
/-- what is read of a result that is walked -/
def seqD : Dt → Option (List Dt)
  | .list ds => some ds
  | .tuple ds => some ds
  | _ => none
theorem sq_of {K : PySem.W.Frag} {O : AS} {H : Hp} {v : V} {d : Dt} {ds : List Dt} (h : Rt K O H v d) (e : seqD d = some ds) : ∃ tp a xs, v = .ref a ∧ Sq K H tp a xs ∧ RpL K O H xs ds := by
  cases d with
  | list l => cases e; obtain ⟨a, xs, h1, h2, h3⟩ := rt_list h; exact ⟨false, a, xs, h1, h2, h3⟩
  | tuple l => cases e; obtain ⟨a, xs, h1, h2, h3⟩ := rt_tuple h; exact ⟨true, a, xs, h1, h2, h3⟩
  | _ => cases e
end Iv
set_option Elab.async false
set_option linter.all false
set_option maxRecDepth 100000
set_option maxHeartbeats 2000000
namespace Iv
open PySem L2
variable [Cst]
/-- all are kept elsewhere -/
def shareAll : List Rs → M (List Dt)
  | [], τ => some ([], τ)
  | r :: rs, τ => (share r τ).bind fun p => (shareAll rs p.2).map fun q => (p.1 :: q.1, q.2)
section
variable {K : PySem.W.Frag} {E : AS} {τ τ' τ1 τ2 : Tau} {σ : L2.St} {H H' H1 : Hp} {v : V} {d : Dt} {r : Rs} {rs : List Rs} {vs : List V} {ds : List Dt}
theorem Wait.dn (w : Wait K E τ σ H r v) (h : Dn τ τ') : Wait K E τ' σ H r v := by
  cases r with
  | v d => exact Rp.mono w (Ext.refl (O := Av E τ' σ)).wk fun a z => .inl (z.elim .inl fun z => .inr (h.os z))
  | nw d => exact w
  | sl i => exact ⟨w.1, w.2.elim fun d q => h.keeps i d q⟩
theorem Waits.dn (w : Waits K E τ σ H rs vs) (h : Dn τ τ') : Waits K E τ' σ H rs vs := by
  induction w with
  | nil => exact .nil
  | cons a _ ih => exact .cons (a.dn h) ih
theorem Wait.share (S : SRep K E τ σ H) (w : Wait K E τ σ H r v) (h : share r τ = some (d, τ')) : SRep K E τ' σ H ∧ Rp K (Av E τ' σ) H v d ∧ Dn τ τ' := by
  cases r with
  | v d' => cases h; exact ⟨S, w, .refl⟩
  | nw d' => exact w.elim
  | sl i =>
    simp only [Iv.share, Option.bind_eq_some_iff, Option.map_eq_some_iff] at h
    obtain ⟨d3, e1, τ3, e2, e3⟩ := h
    cases e3
    have q := S.unown e2 e1 w.1
    exact ⟨q.1, q.2, dn_unown e2⟩
theorem waits_share : ∀ {rs : List Rs} {vs : List V} {ds : List Dt} {τ τ' : Tau}, SRep K E τ σ H → Waits K E τ σ H rs vs → shareAll rs τ = some (ds, τ') → SRep K E τ' σ H ∧ RpL K (Av E τ' σ) H vs ds ∧ Dn τ τ'
  | _, _, _, _, _, S, .nil, h => by cases h; exact ⟨S, .nil, .refl⟩
  | _, _, _, _, τ', S, .cons a w, h => by
    simp only [shareAll, Option.bind_eq_some_iff, Option.map_eq_some_iff] at h
    obtain ⟨⟨d1, τ1⟩, h1, ⟨ds1, τ2⟩, h2, h3⟩ := h
    cases h3
    obtain ⟨S1, r1, n1⟩ := a.share S h1
    obtain ⟨S2, r2, n2⟩ := waits_share S1 (w.dn n1) h2
    exact ⟨S2, .cons (r1.mono (Ext.refl (O := Av E τ2 σ)).wk fun a z => .inl (z.elim .inl fun z => .inr (n2.os z))) r2, n1.trans n2⟩
theorem PostA.share (P : PostA K E τ σ H rs τ1 vs H1) (h : shareAll rs τ1 = some (ds, τ2)) : PostB K E τ σ H τ2 H1 ∧ RpL K (Av E τ2 σ) H1 vs ds := by
  obtain ⟨S2, r2, n2⟩ := waits_share P.rep P.res h
  exact ⟨⟨P.ext, P.dn.trans n2, S2⟩, r2⟩
end
/-! ### displays -/
def mTup (ma : M (List Rs)) : M Rs := fun τ => (ma τ).bind fun p => (shareAll p.1 p.2).bind fun q => if q.1.length ≤ sizeLine then some (.v (.tuple q.1), q.2) else none
def mLst (ma : M (List Rs)) : M Rs := fun τ => (ma τ).bind fun p => (shareAll p.1 p.2).bind fun q => if q.1.length ≤ sizeLine then some (.nw (.list q.1), q.2) else none
section
variable {X : Cx} {es : List Expr} {ma : M (List Rs)} {pos : Pos}
theorem se_tup {x1} (h : SA X es ma) : SE X (.Tuple es x1 pos) (mTup ma) := by
  refine ⟨peW (pe_tup h.pa) fun σ H Q h => ?_⟩
  obtain ⟨E, τ, r, τ', S, hm, k⟩ := h
  simp only [mTup, Option.bind_eq_some_iff] at hm
  obtain ⟨⟨rs, τ1⟩, h1, ⟨ds, τ2⟩, h2, h3⟩ := hm
  split at h3
  · rename_i hl
    cases h3
    refine ⟨E, τ, rs, τ1, S, h1, fun vs H1 P => ?_⟩
    obtain ⟨B, rl⟩ := P.share h2
    refine ⟨by rw [rl.length]; exact hl, fun p hp => k _ _ ?_⟩
    refine B.post (post_step B.rep (.new hp) (r := .v (.tuple ds)) ?_)
    exact .tup upd_same (rl.mono (wkAll (.new hp)) fun _ z => .inl z)
  · cases h3
theorem se_lst (h : SA X es ma) : SE X (.List es pos) (mLst ma) := by
  refine ⟨peW (pe_lst h.pa) fun σ H Q h => ?_⟩
  obtain ⟨E, τ, r, τ', S, hm, k⟩ := h
  simp only [mLst, Option.bind_eq_some_iff] at hm
  obtain ⟨⟨rs, τ1⟩, h1, ⟨ds, τ2⟩, h2, h3⟩ := hm
  split at h3
  · rename_i hl
    cases h3
    refine ⟨E, τ, rs, τ1, S, h1, fun vs H1 P => ?_⟩
    obtain ⟨B, rl⟩ := P.share h2
    refine ⟨by rw [rl.length]; exact hl, fun p hp => k _ _ ?_⟩
    refine B.post (post_step B.rep (.new hp) (r := .nw (.list ds)) ⟨p, rfl, hp, .lst upd_same (rl.mono (wkAll (.new hp)) fun a z => ?_)⟩)
    rcases z with z | z
    · exact .inl z
    · exact .inr (by rw [z]; exact hp)
  · cases h3
end
/-! ### what is walked, by values -/
def mHold (m : M Rs) : M (List Dt × Option Nat) := fun τ => (m τ).bind fun p => hold p.1 p.2
def rangeD (lo : Int) (n : Nat) : List Dt := (List.range n).map fun (i : Nat) => .int (lo + i)
def okR (i : Int) : Bool := decide (-(2 ^ 62) ≤ i ∧ i < 2 ^ 62)
def rng1L : List Dt → Option (List Dt)
  | [.int j] => if okR j then some (rangeD 0 j.toNat) else none
  | _ => none
def rng2L : List Dt → Option (List Dt)
  | [.int i, .int j] => if okR i && okR j then some (rangeD i (j - i).toNat) else none
  | _ => none
def rangeC (lo c : Int) (n : Nat) : List Dt := (List.range n).map fun (i : Nat) => .int (lo + i * c)
/-- range(i, j, -1) -/
def rng3L : List Dt → Option (List Dt)
  | [.int i, .int j, .int c] => if c = -1 && okR i && okR j then some (rangeC i (-1) (i - j).toNat) else none
  | _ => none
/-- items reckoned from the arguments' values -/
def mItems (f : List Dt → Option (List Dt)) (ma : M (List Rs)) : M (List Dt × Option Nat) := fun τ => (ma τ).bind fun p => (shareAll p.1 p.2).bind fun q => (f q.1).map fun its => ((its, none), q.2)
def enumD (k : Int) : List Dt → List Dt
  | [] => []
  | d :: ds => .tuple [.int k, d] :: enumD (k + 1) ds
def enum1L : List Dt → Option (List Dt)
  | [d] => (seqD d).map (enumD 0)
  | _ => none
def enum2L : List Dt → Option (List Dt)
  | [d, .int k] => if -(2 ^ 63) ≤ k ∧ k < 2 ^ 63 then (seqD d).map (enumD k) else none
  | _ => none
def zipD : List Dt → List Dt → List Dt
  | d :: ds, e :: es => .tuple [d, e] :: zipD ds es
  | _, _ => []
def zipD3 : List Dt → List Dt → List Dt → List Dt
  | d :: ds, e :: es, f :: fs => .tuple [d, e, f] :: zipD3 ds es fs
  | _, _, _ => []
def zip2L : List Dt → Option (List Dt)
  | [d, e] => (seqD d).bind fun ds => (seqD e).map fun es => zipD ds es
  | _ => none
def zip3L : List Dt → Option (List Dt)
  | [d, e, f] => (seqD d).bind fun ds => (seqD e).bind fun es => (seqD f).map fun fs => zipD3 ds es fs
  | _ => none
theorem enumD_length (k : Int) (ds : List Dt) : (enumD k ds).length = ds.length := by
  induction ds generalizing k with
  | nil => rfl
  | cons d ds ih => rw [enumD, List.length_cons, ih, List.length_cons]
theorem enumD_get : ∀ (ds : List Dt) (k : Int) (i : Nat) (e : Dt), (enumD k ds)[i]? = some e → ∃ d, ds[i]? = some d ∧ e = .tuple [.int (k + i), d]
  | [], k, i, e, h => by simp [enumD] at h
  | d :: ds, k, 0, e, h => by
    simp [enumD] at h
    exact ⟨d, rfl, by rw [← h]; simp⟩
  | d :: ds, k, i + 1, e, h => by
    obtain ⟨d', h1, h2⟩ := enumD_get ds (k + 1) i e (by simpa [enumD] using h)
    refine ⟨d', by simpa using h1, ?_⟩
    rw [h2, show k + 1 + (i : Int) = k + ((i + 1 : Nat) : Int) by omega]
theorem zipD_length : ∀ ds es : List Dt, (zipD ds es).length = min ds.length es.length
  | [], _ => by simp [zipD]
  | _ :: _, [] => by simp [zipD]
  | d :: ds, e :: es => by rw [zipD, List.length_cons, zipD_length ds es, List.length_cons, List.length_cons]; omega
theorem zipD_get : ∀ (ds es : List Dt) (i : Nat) (f : Dt), (zipD ds es)[i]? = some f → ∃ d e, ds[i]? = some d ∧ es[i]? = some e ∧ f = .tuple [d, e]
  | [], _, i, f, h => by simp [zipD] at h
  | _ :: _, [], i, f, h => by simp [zipD] at h
  | d :: ds, e :: es, 0, f, h => by
    simp [zipD] at h
    exact ⟨d, e, rfl, rfl, h.symm⟩
  | d :: ds, e :: es, i + 1, f, h => by
    obtain ⟨d', e', h1, h2, h3⟩ := zipD_get ds es i f (by simpa [zipD] using h)
    exact ⟨d', e', by simpa using h1, by simpa using h2, h3⟩
theorem zipD3_length : ∀ ds es fs : List Dt, (zipD3 ds es fs).length = min (min ds.length es.length) fs.length
  | [], _, _ => by simp [zipD3]
  | _ :: _, [], _ => by simp [zipD3]
  | _ :: _, _ :: _, [] => by simp [zipD3]
  | d :: ds, e :: es, f :: fs => by rw [zipD3, List.length_cons, zipD3_length ds es fs, List.length_cons, List.length_cons, List.length_cons]; omega
theorem zipD3_get : ∀ (ds es fs : List Dt) (i : Nat) (g : Dt), (zipD3 ds es fs)[i]? = some g → ∃ d e f, ds[i]? = some d ∧ es[i]? = some e ∧ fs[i]? = some f ∧ g = .tuple [d, e, f]
  | [], _, _, i, g, h => by simp [zipD3] at h
  | _ :: _, [], _, i, g, h => by simp [zipD3] at h
  | _ :: _, _ :: _, [], i, g, h => by simp [zipD3] at h
  | d :: ds, e :: es, f :: fs, 0, g, h => by
    simp [zipD3] at h
    exact ⟨d, e, f, rfl, rfl, rfl, h.symm⟩
  | d :: ds, e :: es, f :: fs, i + 1, g, h => by
    obtain ⟨d', e', f', h1, h2, h3, h4⟩ := zipD3_get ds es fs i g (by simpa [zipD3] using h)
    exact ⟨d', e', f', by simpa using h1, by simpa using h2, by simpa using h3, h4⟩
section
variable {K : PySem.W.Frag} {E : AS} {τ τ' τ1 τ2 : Tau} {σ : L2.St} {H H' H0 H1 : Hp} {v : V} {d : Dt} {r : Rs} {items : List Dt} {J : It}
/-- nothing is held -/
theorem PostB.w (B : PostB K E τ σ H τ' H') (w : WalkD K E τ' σ J items H') : PostW K E τ σ H items none τ' J H' := by
  refine ⟨B.ext, fun a q => B.dn.os q, fun a q => B.dn.om q, fun i d q => .inl ⟨by simp, (B.s.io i d q).1⟩, fun i io d q => ⟨(B.s.lo i io d q).1, by simp⟩, B.rep, (fun i q => by cases q), w, τ', B.dn, fun _ => rfl, fun i q => by cases q⟩
/-- items that stand in a list or tuple -/
def jSq (K : PySem.W.Frag) : Bool → Addr → It
  | false, a => Itl K a
  | true, a => Itt K a
theorem walkD_of {a : Addr} {xs : List V} {tp : Bool} (hG : ∀ H, Ext (Om τ σ) H0 H → Sq K H tp a xs) (rl : RpL K (Av E τ σ) H0 xs items) : WalkD K E τ σ (jSq K tp a) items H0 := by
  refine ⟨YAt xs, ?_, fun i H x H' d hd e y => ?_⟩
  · rw [← rl.length]
    cases tp with
    | false => exact walk_list.mono (fun H e => hG H e) fun _ _ _ _ _ _ y => y
    | true => exact walk_tup.mono (fun H e => hG H e) fun _ _ _ _ _ _ y => y
  · obtain ⟨rfl, hx⟩ := y
    obtain ⟨v, h1, h2⟩ := rl.get hd
    rw [hx] at h1
    cases h1
    exact ⟨.refl, fun O' w hO => h2.mono w hO⟩
theorem walkD_ints {lo : Int} {n : Nat} : WalkD K E τ σ (Itr lo n) (rangeD lo n) H0 := by
  refine ⟨YFn fun i => .int (lo + i), ?_, fun i H x H' d hd e y => ?_⟩
  · rw [rangeD, List.length_map, List.length_range]
    exact walk_range.mono (fun _ _ => trivial) fun _ _ _ _ _ _ y => y
  · obtain ⟨rfl, rfl⟩ := y
    rw [rangeD, List.getElem?_map] at hd
    cases z : (List.range n)[i]? with
    | none => rw [z] at hd; cases hd
    | some j =>
      rw [z] at hd
      cases hd
      rw [List.getElem?_range (by
        have := (List.getElem?_eq_some_iff.mp z).1
        simpa using this)] at z
      cases z
      exact ⟨.refl, fun O' w hO => .int _⟩
/-- rows in new tuples -/
theorem walkD_rows {n : Nat} {G : Hp → Prop} {rows : Nat → List V} (hn : n = items.length) (hG : ∀ H, Ext (Om τ σ) H0 H → G H) (hr : ∀ (i : Nat) d, items[i]? = some d → ∃ ds, d = .tuple ds ∧ RpL K (Av E τ σ) H0 (rows i) ds) : WalkD K E τ σ (Jt n G rows) items H0 := by
  subst hn
  refine ⟨_, walk_of_rows.mono hG fun _ _ _ _ _ _ y => y, fun i H x H' d hd e y => ?_⟩
  obtain ⟨T, rfl, hT, rfl⟩ := y
  obtain ⟨ds, rfl, rl⟩ := hr i d hd
  exact ⟨.new hT, fun O' w hO => .tup upd_same (rl.mono w hO)⟩
end
end Iv
set_option Elab.async false
set_option linter.all false
set_option maxRecDepth 100000
set_option maxHeartbeats 2000000
namespace Iv
open PySem L2
variable [Cst]
section
variable {K : PySem.W.Frag} {E O M : AS} {τ τ' τ1 τ2 : Tau} {σ : L2.St} {H H' H0 H1 : Hp} {v : V} {d : Dt} {r : Rs} {items ds : List Dt} {J : It}
theorem sqT {a : Addr} {xs : List V} (h : SqT K H a xs) : Sq K H true a xs := h
theorem sqL {a : Addr} {xs : List V} (h : SqL K H a xs) : Sq K H false a xs := h
theorem rp_keep (h : Rp K O H v d) (e : seqD d = some ds) : ∃ tp a xs, v = .ref a ∧ d = (bif tp then .tuple ds else .list ds) ∧ Sq K H tp a xs ∧ RpL K O H xs ds ∧ ∀ M H', (∀ b, M b → O b) → Ext M H H' → Sq K H' tp a xs := by
  cases h with
  | lst n rd q => cases e; exact ⟨false, _, _, rfl, rfl, sqL (.inl rd), q, fun M H' hm ex => sqL (.inl (ex.rd (fun z => n (hm _ z)) rd))⟩
  | lsk sq q =>
    cases e
    have cst : ∀ H, SqL K H _ _ := fun H => sq.sq
    exact ⟨false, _, _, rfl, rfl, cst H, q, fun M H' hm ex => cst H'⟩
  | tup sq q => cases e; exact ⟨true, _, _, rfl, rfl, sqT (.inl (.inl sq)), q, fun M H' hm ex => sqT (.inl (.inl (ex.tup _ _ sq)))⟩
  | tuk c sq q => cases e; exact ⟨true, _, _, rfl, rfl, kT sq, q, fun M H' hm ex => kT sq⟩
  | _ => cases e
/-- what a walked result is -/
structure HeldSeq (K : PySem.W.Frag) (E : AS) (τ : Tau) (σ : L2.St) (H : Hp) (items : List Dt) (lk : Option Nat) (τ' : Tau) (v : V) (H' : Hp) (d : Option Dt) (tp : Bool) (a : Addr) (xs : List V) : Prop where
  eq : v = .ref a
  kd : d = some (bif tp then .tuple items else .list items)
  sq : Sq K H' tp a xs
  post : PostW K E τ σ H items lk τ' (jSq K tp a) H'
theorem hold_ok (P : Post K E τ σ H r τ1 v H1) {lk : Option Nat} (h : hold r τ1 = some ((items, lk), τ2)) : ∃ tp a xs, HeldSeq K E τ σ H items lk τ2 v H1 (deref r τ1) tp a xs := by
  have plain : ∀ {d : Dt}, seqD d = some items → deref r τ1 = some d → lk = none → τ2 = τ1 → SRep K E τ1 σ H1 → Rp K (Av E τ1 σ) H1 v d → ∃ tp a xs, HeldSeq K E τ σ H items lk τ2 v H1 (deref r τ1) tp a xs := by
    intro d e hk hl ht S q
    subst hl ht
    obtain ⟨tp, a, xs, e1, e2, sq, rl, kp⟩ := rp_keep q e
    exact ⟨tp, a, xs, e1, by rw [hk, e2], sq, P.b.w (walkD_of (fun H' ex => kp _ H' (fun b z => .inr (om_os z)) ex) rl)⟩
  unfold hold at h
  split at h
  · cases h; exact plain (d := .list _) rfl rfl rfl rfl P.res.1 P.res.2
  · cases h; exact plain (d := .tuple _) rfl rfl rfl rfl P.res.1 P.res.2
  · cases h
    obtain ⟨p, e1, n, nE, S, w⟩ := P.res
    have w' := w
    cases w' with
    | lst hp rl =>
      exact ⟨false, p, _, e1, rfl, sqL (.inl (.inl hp)), P.b.w (walkD_of (fun H' ex => sqL (.inl (ex.rd (fun z => (S.os_at (om_os z)).2 (.inr rfl)) (.inl hp)))) (rl.mono (Ext.refl (O := Av E τ1 σ)).wk fun a z => .inl (z.elim (fun z => .inl (.inl z)) .inr)))⟩
  · rename_i i
    obtain ⟨S, hv, _⟩ := P.res
    split at h
    · rename_i io l e
      simp only [Option.map_eq_some_iff] at h
      obtain ⟨τ3, h1, h2⟩ := h
      cases h2
      obtain ⟨S2, hO, hM, io2, d2, a, e2, e3, hv2, w⟩ := S.lock h1
      rw [e] at e2
      cases e2
      rw [hv] at hv2
      cases hv2
      have hi := (List.getElem?_eq_some_iff.mp e).1
      have el : τ2[i]? = some (.lo io (.list items)) := by rw [e3, List.getElem?_set_self hi]
      have ek : ∀ {k : Nat}, k ≠ i → τ2[k]? = τ1[k]? := fun hk => by rw [e3, List.getElem?_set_ne (Ne.symm hk)]
      cases w with
      | lst ha rl =>
        have nM : ¬ Om τ2 σ a := fun ⟨k, io2, d2, z1, z2⟩ => by
          have ek2 := S2.inj k i _ _ a z1 el rfl rfl z2 hv
          rw [ek2, el] at z1
          cases z1
        refine ⟨false, a, _, rfl, by simp [deref, slD, e, Sl.data], sqL (.inl (.inl ha)), ⟨P.ext, fun b z => P.dn.os (hO b z), fun b z => P.dn.om (hM b z), fun k d q => ?_, fun k io2 d2 q => ?_, S2, fun k hk => ?_, walkD_of (fun H' ex => sqL (.inl (ex.rd nM (.inl ha)))) rl, τ1, P.dn, (fun z => by cases z), fun j z => by cases z; exact h1⟩⟩
        · obtain ⟨⟨d', y1⟩, _⟩ := P.b.s.io k d q
          by_cases hk : k = i
          · subst hk
            rw [e] at y1
            cases y1
            exact .inr ⟨rfl, _, el⟩
          · exact .inl ⟨fun z => hk (Option.some.inj z).symm, d', by rw [ek hk]; exact y1⟩
        · obtain ⟨h1, _⟩ := P.b.s.lo k io2 d2 q
          have hk : k ≠ i := fun z => by rw [z, e] at h1; cases h1
          exact ⟨by rw [ek hk]; exact h1, fun z => hk (Option.some.inj z).symm⟩
        · cases hk
          obtain ⟨s0, q0, l0⟩ := P.dn.back e
          have : ∃ d0, s0 = .ow io d0 := by
            rcases l0 with z | ⟨io3, d3, d4, z1, z2⟩ | ⟨d3, d4, z1, z2⟩
            · exact ⟨_, z.symm⟩
            · cases z2; exact ⟨_, z1⟩
            · cases z2
          obtain ⟨d0, rfl⟩ := this
          exact ⟨io, d0, _, a, q0, el, hv, .lst ha rl⟩
    · rename_i io l e
      cases h
      obtain ⟨a, z1, z2, z3, z4, z5⟩ := S.lo i io _ e
      rw [hv] at z1
      cases z1
      obtain ⟨a', xs, e5, sq, rl⟩ := rt_list z5
      cases e5
      have nM : ¬ Om τ1 σ a := fun ⟨k, io2, d2, y1, y2⟩ => by
        have ek2 := S.inj k i _ _ a y1 e rfl rfl y2 hv
        rw [ek2, e] at y1
        cases y1
      exact ⟨false, a, xs, rfl, by simp [deref, slD, e, Sl.data], sqL sq, P.b.w (walkD_of (fun H' ex => sqL (sq.elim (fun rd => .inl (ex.rd nM rd)) .inr)) rl)⟩
    · rename_i l e
      cases h
      obtain ⟨v', z1, z2⟩ := S.sh i _ e
      rw [hv] at z1
      cases z1
      exact plain (d := .list _) rfl (by simp [deref, slD, e, Sl.data]) rfl rfl S z2
    · rename_i l e
      cases h
      obtain ⟨v', z1, z2⟩ := S.sh i _ e
      rw [hv] at z1
      cases z1
      exact plain (d := .tuple _) rfl (by simp [deref, slD, e, Sl.data]) rfl rfl S z2
    · cases h
  · cases h
/-- the kind of what is walked is known ahead -/
theorem hold_kind {lk : Option Nat} (h : hold r τ1 = some ((items, lk), τ2)) : deref r τ1 = some (.list items) ∨ deref r τ1 = some (.tuple items) := by
  unfold hold at h
  split at h
  · cases h; exact .inl rfl
  · cases h; exact .inr rfl
  · cases h; exact .inl rfl
  · split at h
    · rename_i i io l e
      simp only [Option.map_eq_some_iff] at h
      obtain ⟨τ3, h1, h2⟩ := h
      cases h2
      exact .inl (by simp [deref, slD, e, Sl.data])
    · rename_i i io l e
      cases h
      exact .inl (by simp [deref, slD, e, Sl.data])
    · rename_i i l e
      cases h
      exact .inl (by simp [deref, slD, e, Sl.data])
    · rename_i i l e
      cases h
      exact .inr (by simp [deref, slD, e, Sl.data])
    · cases h
  · cases h
end
section
variable {X : Cx} {tg e e2 e3 : Expr} {m : M Rs} {ma : M (List Rs)} {p pos tpos : Pos} {elts : List Expr} {kk : Nat}
theorem si_val (h : SE X e m) : SI X tg e (mHold m) := by
  refine ⟨⟨fun pins s σ H R I q => ?_⟩⟩
  obtain ⟨E, τ, items, lk, τ', S, hm, k⟩ := q
  simp only [mHold, Option.bind_eq_some_iff] at hm
  obtain ⟨⟨r, τ1⟩, h1, h2⟩ := hm
  rcases hold_kind h2 with hd | hd
  · refine (pi_list h.pe).run pins s σ H R I ⟨E, τ, r, τ1, S, h1, fun v H1 P => ?_⟩
    obtain ⟨tp, a, xs, Q⟩ := hold_ok P h2
    have kd := Q.kd
    rw [hd] at kd
    cases tp with
    | false => exact ⟨a, Q.eq, ⟨xs, Q.sq⟩, k _ H1 Q.post⟩
    | true => cases kd
  · refine (pi_tup h.pe).run pins s σ H R I ⟨E, τ, r, τ1, S, h1, fun v H1 P => ?_⟩
    obtain ⟨tp, a, xs, Q⟩ := hold_ok P h2
    have kd := Q.kd
    rw [hd] at kd
    cases tp with
    | false => cases kd
    | true => exact ⟨a, Q.eq, ⟨xs, Q.sq⟩, k _ H1 Q.post⟩
theorem okR_of {i : Int} (h : okR i = true) : -(2 ^ 62) ≤ i ∧ i < 2 ^ 62 := of_decide_eq_true h
theorem si_range1 (hg : Gl X "range") (hm : X.mg "range" = none) (ha : SA X [e] ma) (hs : starEach [e] X.env = [(false, eval e X.env)] := by rfl) : SI X tg (.Call (.Name "range" p) [e] [] pos) (mItems rng1L ma) := by
  refine ⟨piW (pi_range1 hg hm ha.pa hs) fun σ H R q => ?_⟩
  obtain ⟨E, τ, items, lk, τ', S, hm, k⟩ := q
  simp only [mItems, Option.bind_eq_some_iff, Option.map_eq_some_iff] at hm
  obtain ⟨⟨rs, τ1⟩, h1, ⟨ds, τ2⟩, h2, its, h3, h4⟩ := hm
  cases h4
  refine ⟨E, τ, rs, τ1, S, h1, fun vs H1 P => ?_⟩
  obtain ⟨B, rl⟩ := P.share h2
  replace h3 : rng1L ds = some items := h3
  unfold rng1L at h3
  split at h3
  · rename_i j
    split at h3
    · rename_i hj
      cases h3
      cases rl with
      | cons a b =>
        cases b
        obtain ⟨z1, z2⟩ := okR_of hj
        exact ⟨_, (by have := rt_int (.rp a); subst this; rfl), z1, z2, k _ H1 (B.w walkD_ints)⟩
    · cases h3
  · cases h3
theorem si_range2 (hg : Gl X "range") (hm : X.mg "range" = none) (ha : SA X [e, e2] ma) (hs : starEach [e, e2] X.env = [(false, eval e X.env), (false, eval e2 X.env)] := by rfl) (hs2 : starEach [e2] X.env = [(false, eval e2 X.env)] := by rfl) :
    SI X tg (.Call (.Name "range" p) [e, e2] [] pos) (mItems rng2L ma) := by
  refine ⟨piW (pi_range2 hg hm ha.pa hs hs2) fun σ H R q => ?_⟩
  obtain ⟨E, τ, items, lk, τ', S, hm, k⟩ := q
  simp only [mItems, Option.bind_eq_some_iff, Option.map_eq_some_iff] at hm
  obtain ⟨⟨rs, τ1⟩, h1, ⟨ds, τ2⟩, h2, its, h3, h4⟩ := hm
  cases h4
  refine ⟨E, τ, rs, τ1, S, h1, fun vs H1 P => ?_⟩
  obtain ⟨B, rl⟩ := P.share h2
  replace h3 : rng2L ds = some items := h3
  unfold rng2L at h3
  split at h3
  · rename_i i j
    split at h3
    · rename_i hj
      cases h3
      cases rl with
      | cons a b =>
        cases b with
        | cons b c =>
          cases c
          obtain ⟨z0, z9⟩ := Bool.and_eq_true_iff.mp hj
          obtain ⟨z1, z2⟩ := okR_of z0
          obtain ⟨z3, z4⟩ := okR_of z9
          exact ⟨_, _, (by have ea := rt_int (.rp a); have eb := rt_int (.rp b); subst ea; subst eb; rfl), ⟨z1, z2, z3, z4⟩, k _ H1 (B.w walkD_ints)⟩
    · cases h3
  · cases h3
theorem rp_sq {K : PySem.W.Frag} {E : AS} {τ : Tau} {σ : L2.St} {H : Hp} {v : V} {d : Dt} {ds : List Dt} (h : Rp K (Av E τ σ) H v d) (e : seqD d = some ds) :
    ∃ tp a xs, v = .ref a ∧ Sq K H tp a xs ∧ RpL K (Av E τ σ) H xs ds ∧ ∀ H', Ext (Om τ σ) H H' → Sq K H' tp a xs := by
  obtain ⟨tp, a, xs, h1, _, h2, h3, h4⟩ := rp_keep h e
  exact ⟨tp, a, xs, h1, h2, h3, fun H' ex => h4 _ H' (fun b z => .inr (om_os z)) ex⟩
theorem rp_getD {K : PySem.W.Frag} {O : AS} {H : Hp} {xs : List V} {ds : List Dt} (h : RpL K O H xs ds) {i : Nat} {d : Dt} (e : ds[i]? = some d) : Rp K O H (xs.getD i .non) d := by
  obtain ⟨v, h1, h2⟩ := h.get e
  rw [List.getD_eq_getElem?_getD, h1]
  exact h2
theorem si_enum1 (hg : Gl X "enumerate") (hm : X.mg "enumerate" = none) (ha : SA X [e] ma) (hs : starEach [e] X.env = [(false, eval e X.env)] := by rfl) : SI X (.Tuple elts kk tpos) (.Call (.Name "enumerate" p) [e] [] pos) (mItems enum1L ma) := by
  refine ⟨piW (pi_enum1 hg hm ha.pa hs) fun σ H R q => ?_⟩
  obtain ⟨E, τ, items, lk, τ', S, hm, k⟩ := q
  simp only [mItems, Option.bind_eq_some_iff, Option.map_eq_some_iff] at hm
  obtain ⟨⟨rs, τ1⟩, h1, ⟨ds, τ2⟩, h2, its, h3, h4⟩ := hm
  cases h4
  refine ⟨E, τ, rs, τ1, S, h1, fun vs H1 P => ?_⟩
  obtain ⟨B, rl⟩ := P.share h2
  replace h3 : enum1L ds = some items := h3
  unfold enum1L at h3
  split at h3
  · rename_i d
    simp only [Option.map_eq_some_iff] at h3
    obtain ⟨l, h5, h6⟩ := h3
    cases h6
    cases rl with
    | cons a b =>
      cases b
      obtain ⟨tp, ad, xs, rfl, sq, rx, kp⟩ := rp_sq a h5
      refine ⟨tp, ad, xs, rfl, sq, k _ H1 (B.w (walkD_rows (by rw [enumD_length, rx.length]) kp fun i d hd => ?_))⟩
      obtain ⟨d', y1, y2⟩ := enumD_get l 0 i d hd
      exact ⟨_, y2, .cons (.int _) (.cons (rp_getD rx y1) .nil)⟩
  · cases h3
theorem si_enum2 (hg : Gl X "enumerate") (hm : X.mg "enumerate" = none) (ha : SA X [e, e2] ma) (hs : starEach [e, e2] X.env = (false, eval e X.env) :: starEach [e2] X.env := by rfl) (hpl : (backTo pos (starEach [e2] X.env)).any (·.1) = false := by rfl) :
    SI X (.Tuple elts kk tpos) (.Call (.Name "enumerate" p) [e, e2] [] pos) (mItems enum2L ma) := by
  refine ⟨piW (pi_enum2 hg hm ha.pa hs hpl) fun σ H R q => ?_⟩
  obtain ⟨E, τ, items, lk, τ', S, hm, k⟩ := q
  simp only [mItems, Option.bind_eq_some_iff, Option.map_eq_some_iff] at hm
  obtain ⟨⟨rs, τ1⟩, h1, ⟨ds, τ2⟩, h2, its, h3, h4⟩ := hm
  cases h4
  refine ⟨E, τ, rs, τ1, S, h1, fun vs H1 P => ?_⟩
  obtain ⟨B, rl⟩ := P.share h2
  replace h3 : enum2L ds = some items := h3
  unfold enum2L at h3
  split at h3
  · rename_i d c
    split at h3
    · rename_i hc
      simp only [Option.map_eq_some_iff] at h3
      obtain ⟨l, h5, h6⟩ := h3
      cases h6
      cases rl with
      | cons a b =>
        cases b with
        | cons b z =>
          cases z
          obtain ⟨tp, ad, xs, rfl, sq, rx, kp⟩ := rp_sq a h5
          refine ⟨tp, ad, xs, c, (by have eb := rt_int (.rp b); subst eb; rfl), hc.1, hc.2, sq, k _ H1 (B.w (walkD_rows (by rw [enumD_length, rx.length]) kp fun i d hd => ?_))⟩
          obtain ⟨d', y1, y2⟩ := enumD_get l c i d hd
          exact ⟨_, y2, .cons (.int _) (.cons (rp_getD rx y1) .nil)⟩
    · cases h3
  · cases h3
theorem si_zip2 (hg : Gl X "zip") (hm : X.mg "zip" = none) (ha : SA X [e, e2] ma) (hs : starEach [e, e2] X.env = (false, eval e X.env) :: starEach [e2] X.env := by rfl) (hpl : (backTo pos (starEach [e2] X.env)).any (·.1) = false := by rfl) :
    SI X (.Tuple elts kk tpos) (.Call (.Name "zip" p) [e, e2] [] pos) (mItems zip2L ma) := by
  refine ⟨piW (pi_zip2 hg hm ha.pa hs hpl) fun σ H R q => ?_⟩
  obtain ⟨E, τ, items, lk, τ', S, hm, k⟩ := q
  simp only [mItems, Option.bind_eq_some_iff, Option.map_eq_some_iff] at hm
  obtain ⟨⟨rs, τ1⟩, h1, ⟨ds, τ2⟩, h2, its, h3, h4⟩ := hm
  cases h4
  refine ⟨E, τ, rs, τ1, S, h1, fun vs H1 P => ?_⟩
  obtain ⟨B, rl⟩ := P.share h2
  replace h3 : zip2L ds = some items := h3
  unfold zip2L at h3
  split at h3
  · simp only [Option.bind_eq_some_iff, Option.map_eq_some_iff] at h3
    obtain ⟨l, h5, l2, h6, h7⟩ := h3
    cases h7
    cases rl with
    | cons a b =>
      cases b with
      | cons b z =>
        cases z
        obtain ⟨tp, ad, xs, rfl, sq, rx, kp⟩ := rp_sq a h5
        obtain ⟨tp2, ad2, xs2, rfl, sq2, rx2, kp2⟩ := rp_sq b h6
        refine ⟨tp, tp2, ad, ad2, xs, xs2, rfl, sq, sq2, k _ H1 (B.w (walkD_rows (by rw [zipD_length, rx.length, rx2.length]) (fun H' ex => ⟨kp H' ex, kp2 H' ex⟩) fun i d hd => ?_))⟩
        obtain ⟨d', e', y1, y2, y3⟩ := zipD_get l l2 i d hd
        exact ⟨_, y3, .cons (rp_getD rx y1) (.cons (rp_getD rx2 y2) .nil)⟩
  · cases h3
theorem si_zip3 (hg : Gl X "zip") (hm : X.mg "zip" = none) (ha : SA X [e, e2, e3] ma) (hs : starEach [e, e2, e3] X.env = (false, eval e X.env) :: starEach [e2, e3] X.env := by rfl) (hpl : (backTo pos (starEach [e2, e3] X.env)).any (·.1) = false := by rfl) :
    SI X (.Tuple elts kk tpos) (.Call (.Name "zip" p) [e, e2, e3] [] pos) (mItems zip3L ma) := by
  refine ⟨piW (pi_zip3 hg hm ha.pa hs hpl) fun σ H R q => ?_⟩
  obtain ⟨E, τ, items, lk, τ', S, hm, k⟩ := q
  simp only [mItems, Option.bind_eq_some_iff, Option.map_eq_some_iff] at hm
  obtain ⟨⟨rs, τ1⟩, h1, ⟨ds, τ2⟩, h2, its, h3, h4⟩ := hm
  cases h4
  refine ⟨E, τ, rs, τ1, S, h1, fun vs H1 P => ?_⟩
  obtain ⟨B, rl⟩ := P.share h2
  replace h3 : zip3L ds = some items := h3
  unfold zip3L at h3
  split at h3
  · simp only [Option.bind_eq_some_iff, Option.map_eq_some_iff] at h3
    obtain ⟨l, h5, l2, h6, l3, h7, h8⟩ := h3
    cases h8
    cases rl with
    | cons a b =>
      cases b with
      | cons b c =>
        cases c with
        | cons c z =>
          cases z
          obtain ⟨tp, ad, xs, rfl, sq, rx, kp⟩ := rp_sq a h5
          obtain ⟨tp2, ad2, xs2, rfl, sq2, rx2, kp2⟩ := rp_sq b h6
          obtain ⟨tp3, ad3, xs3, rfl, sq3, rx3, kp3⟩ := rp_sq c h7
          refine ⟨tp, tp2, tp3, ad, ad2, ad3, xs, xs2, xs3, rfl, sq, sq2, sq3, k _ H1 (B.w (walkD_rows (by rw [zipD3_length, rx.length, rx2.length, rx3.length]) (fun H' ex => ⟨kp H' ex, kp2 H' ex, kp3 H' ex⟩) fun i d hd => ?_))⟩
          obtain ⟨d', e', f', y1, y2, y3, y4⟩ := zipD3_get l l2 l3 i d hd
          exact ⟨_, y4, .cons (rp_getD rx y1) (.cons (rp_getD rx2 y2) (.cons (rp_getD rx3 y3) .nil))⟩
  · cases h3
end
/-! ### for -/
def forL (b : MB) (body : MS) : List Dt → MS
  | [], τ => some (.nx, τ)
  | d :: ds, τ => (b d τ).bind fun τ1 => (body τ1).bind fun q => match q.1 with
    | .nx => forL b body ds q.2
    | .ct => forL b body ds q.2
    | .bk => some (.nx, q.2)
    | .rt d f => some (.rt d f, q.2)
def mFor (ms : M (List Dt × Option Nat)) (b : MB) (body : MS) : MS := fun τ => (ms τ).bind fun p => (forL b body p.1.1 p.2).bind fun q => (unhold p.1.2 q.2).map fun τ' => (q.1, τ')
section
variable {X : Cx} {tg iter : Expr} {body : List Stmt} {ms : M (List Dt × Option Nat)} {is : List Nat} {b : MB} {mb : MS} {pos : Pos}
theorem ss_for (hp : PassesOwn (model X.prog X.w) X.A X.env X.xe) (hc : X.calm = true) (hi : SI X tg iter ms) (hg : SG X tg is b) (hb : SB X body mb) (hs : ∀ x, foldedSetIterable iter X.env x = pure x := by intro _; rfl) :
    SS X (.For tg iter body [] pos) (mFor ms b mb) := by
  refine ⟨psW (ps_for hp hc hi.pi hg.pg hb.pss hs) fun D σ H h => ?_⟩
  obtain ⟨E, τ, o, τ', S, hm, k⟩ := h
  simp only [mFor, Option.bind_eq_some_iff, Option.map_eq_some_iff] at hm
  obtain ⟨⟨⟨items, lk⟩, τ1⟩, h1, ⟨o1, τ2⟩, h2, τ3, h3, h4⟩ := hm
  cases h4
  refine ⟨E, τ, items, lk, τ1, S, h1, fun J H0 P => ?_⟩
  obtain ⟨Y, W, hY⟩ := P.walk
  -- what the end wants
  have fin : SOut X.K E τ1 σ H0 o1 τ2 D := by
    cases o1 with
    | nx =>
      intro σ2 H2 Q S2
      obtain ⟨Q3, S3, _⟩ := end_walk P Q S2 (fun _ z => .inl (.inl z)) h3
      exact k σ2 H2 Q3 S3
    | bk =>
      intro σ2 H2 Q S2
      obtain ⟨Q3, S3, _⟩ := end_walk P Q S2 (fun _ z => .inl (.inl z)) h3
      exact k σ2 H2 Q3 S3
    | ct =>
      intro σ2 H2 Q S2
      obtain ⟨Q3, S3, _⟩ := end_walk P Q S2 (fun _ z => .inl (.inl z)) h3
      exact k σ2 H2 Q3 S3
    | rt d fr =>
      intro σ2 H2 v Q r
      cases fr with
      | false =>
        obtain ⟨S2, rp⟩ := r
        obtain ⟨Q3, S3, sub⟩ := end_walk P Q S2 (fun _ z => .inl (.inl z)) h3
        exact k σ2 H2 v Q3 ⟨S3, rp.mono (Ext.refl (O := Av E τ' σ2)).wk fun a z => .inl (z.elim .inl fun z => .inr (sub a z))⟩
      | true =>
        obtain ⟨p, e, nE, q, S2, w⟩ := r
        obtain ⟨Q3, S3, sub⟩ := end_walk P Q S2 (fun a z => z.elim (fun z => .inl (.inl z)) fun z => by
          rw [z]
          exact q.elim (fun q => .inl (.inr q)) .inr) h3
        refine k σ2 H2 v Q3 ⟨p, e, nE, ?_, S3, w.av fun a z => z.elim .inl fun z => .inr (sub a z)⟩
        rcases q with q | q
        · exact .inl (P.os p q)
        · exact .inr (none_back P.ext q)
  refine for_it (W.mono (G' := fun H => Ext (Om τ1 σ) H0 H) (fun _ e => e) fun _ _ _ _ _ _ y => y) (fun i σi Hi => ∃ τi, PostS τ1 σ H0 τi σi Hi ∧ SRep X.K E τi σi Hi ∧ forL b mb (items.drop i) τi = some (o1, τ2)) ⟨τ1, .refl, P.rep, by simpa using h2⟩ (fun i σi Hi _ ⟨τi, Q, _, _⟩ => Q.ext) (fun i x σi Hi H' hi ⟨τi, Q, Si, hf⟩ y => ?_) fun σi Hi ⟨τi, Q, Si, hf⟩ => ?_
  · obtain ⟨ex, rp⟩ := hY i Hi x H' items[i] (List.getElem?_eq_getElem hi) Q.ext y
    rw [List.drop_eq_getElem_cons hi] at hf
    simp only [forL, Option.bind_eq_some_iff] at hf
    obtain ⟨τb, hb1, ⟨ob, τc⟩, hb2, hb3⟩ := hf
    have Q' : PostS τ1 σ H0 τi σi H' := Q.comp (postS_dn (ex.wider fun _ z => z.elim) .refl)
    have S' := Si.grow ex
    have rx : Rp X.K (Av E τi σi) H' x items[i] := by
      have r1 := rp (fun a => Av E τ1 σ a ∨ Av E τi σi a) (Q'.ext.wider fun a z => .inl (.inr (om_os z))).wk fun a z => by
        rcases z with z | z | z
        · exact .inl z
        · exact .inl (.inl z)
        · exact (Q.os a z).elim (fun z => .inl (.inr z)) .inr
      exact r1.mono (Ext.refl (O := Av E τi σi)).wk fun a z => .inl (.inr z)
    refine ⟨E, τi, items[i], τb, S', rx, hb1, fun σb Qb Sb _ => ⟨E, τb, ob, τc, Sb, hb2, ?_⟩⟩
    cases ob with
    | nx => exact fun σ2 H2 Q2 S2 => ⟨τc, Q'.comp (Qb.comp Q2), S2, hb3⟩
    | ct => exact fun σ2 H2 Q2 S2 => ⟨τc, Q'.comp (Qb.comp Q2), S2, hb3⟩
    | bk => cases hb3; exact fun σ2 H2 Q2 S2 => fin σ2 H2 (Q'.comp (Qb.comp Q2)) S2
    | rt d fr => cases hb3; exact fun σ2 H2 v Q2 r => fin σ2 H2 v (Q'.comp (Qb.comp Q2)) (r.back (Q'.comp Qb))
  · simp only [List.drop_length, forL] at hf
    cases hf
    exact fin σi Hi Q Si
end
end Iv
set_option Elab.async false
set_option linter.all false
set_option maxRecDepth 100000
set_option maxHeartbeats 2000000
namespace Iv
open PySem L2
variable [Cst]
/-! ### list comprehensions -/
/-- the block's own slots are empty at each turn's start -/
def wipeT : List Nat → Tau → Option Tau
  | [], τ => some τ
  | v :: vs, τ => (wipeT vs τ).bind fun τ1 => match τ1[v]? with
    | some .un => some τ1
    | some (.sh _) => some (τ1.set v .un)
    | _ => none
/-- .. and behind the block they are as ahead of it -/
def restT : List Nat → Tau → Tau → Tau
  | [], _, τ => τ
  | v :: vs, τ0, τ => (restT vs τ0 τ).set v (τ0.getD v .un)
def compL (vs : List Nat) (b : MB) (t : M Bool) (me : M Rs) : List Dt → List Dt → Tau → Option (List Dt × Tau)
  | [], acc, τ => some (acc, τ)
  | d :: ds, acc, τ => (b d τ).bind fun τ1 => (t τ1).bind fun p =>
    if p.1 = true then (me p.2).bind fun q => (share q.1 q.2).bind fun u => if acc.length < sizeLine then (wipeT vs u.2).bind fun τ2 => compL vs b t me ds (acc ++ [u.1]) τ2 else none
    else (wipeT vs p.2).bind fun τ2 => compL vs b t me ds acc τ2
def mComp (ms : M (List Dt × Option Nat)) (vs : List Nat) (b : MB) (t : M Bool) (me : M Rs) : M Rs := fun τ =>
  (ms τ).bind fun p => (wipeT vs p.2).bind fun τ0 => (compL vs b t me p.1.1 [] τ0).bind fun q => (unhold p.1.2 (restT vs p.2 q.2)).map fun τ' => (.nw (.list q.1), τ')
def tAll : M Bool := fun τ => some (true, τ)
theorem wipe_get {σ : L2.St} {k : Nat} : ∀ {vs : List Nat}, k ∉ vs → (wipe σ vs)[k]? = σ[k]?
  | [], _ => rfl
  | v :: vs, h => by
    have h1 : v ≠ k := fun z => h (by simp [z])
    show ((wipe σ vs).set v none)[k]? = _
    rw [List.getElem?_set_ne h1]
    exact wipe_get fun z => h (List.mem_cons_of_mem _ z)
theorem wipe_in {σ : L2.St} {k : Nat} : ∀ {vs : List Nat}, k ∈ vs → k < σ.length → (wipe σ vs)[k]? = some none
  | v :: vs, h, hl => by
    show ((wipe σ vs).set v none)[k]? = _
    by_cases e : v = k
    · subst e
      rw [List.getElem?_set_self (by rw [wipe_length]; exact hl)]
    · rw [List.getElem?_set_ne e]
      exact wipe_in ((List.mem_cons.mp h).resolve_left fun z => e z.symm) hl
theorem wipeT_get : ∀ {vs : List Nat} {τ τ' : Tau}, wipeT vs τ = some τ' → τ'.length = τ.length ∧ (∀ k, k ∉ vs → τ'[k]? = τ[k]?) ∧ ∀ k, k ∈ vs → τ'[k]? = some .un ∧ (τ[k]? = some .un ∨ ∃ d, τ[k]? = some (.sh d))
  | [], τ, τ', h => by cases h; exact ⟨rfl, fun _ _ => rfl, fun k hk => by simp at hk⟩
  | v :: vs, τ, τ', h => by
    simp only [wipeT, Option.bind_eq_some_iff] at h
    obtain ⟨τ1, h1, h2⟩ := h
    obtain ⟨l1, o1, i1⟩ := wipeT_get h1
    have hv : (τ1[v]? = some .un ∧ τ' = τ1) ∨ ∃ d, τ1[v]? = some (.sh d) ∧ τ' = τ1.set v .un := by
      split at h2
      · rename_i e; cases h2; exact .inl ⟨e, rfl⟩
      · rename_i d e; cases h2; exact .inr ⟨d, e, rfl⟩
      · cases h2
    have old : τ[v]? = some .un ∨ ∃ d, τ[v]? = some (.sh d) := by
      by_cases hm : v ∈ vs
      · exact (i1 v hm).2
      · rw [← o1 v hm]
        exact hv.elim (fun z => .inl z.1) fun ⟨d, z, _⟩ => .inr ⟨d, z⟩
    have self : τ'[v]? = some .un := by
      rcases hv with ⟨e, rfl⟩ | ⟨d, e, rfl⟩
      · exact e
      · rw [List.getElem?_set_self (List.getElem?_eq_some_iff.mp e).1]
    have other : ∀ k, k ≠ v → τ'[k]? = τ1[k]? := fun k hk => by
      rcases hv with ⟨e, rfl⟩ | ⟨d, e, rfl⟩
      · rfl
      · rw [List.getElem?_set_ne (Ne.symm hk)]
    refine ⟨?_, fun k hk => ?_, fun k hk => ?_⟩
    · rcases hv with ⟨e, rfl⟩ | ⟨d, e, rfl⟩
      · exact l1
      · rw [List.length_set]; exact l1
    · rw [other k fun z => hk (by simp [z])]
      exact o1 k fun z => hk (List.mem_cons_of_mem _ z)
    · by_cases e : k = v
      · subst e; exact ⟨self, old⟩
      · have hm : k ∈ vs := (List.mem_cons.mp hk).resolve_left e
        exact ⟨by rw [other k e]; exact (i1 k hm).1, (i1 k hm).2⟩
theorem restT_get : ∀ {vs : List Nat} {τ0 τ : Tau}, (restT vs τ0 τ).length = τ.length ∧ (∀ k, k ∉ vs → (restT vs τ0 τ)[k]? = τ[k]?) ∧ ∀ k, k ∈ vs → k < τ.length → (restT vs τ0 τ)[k]? = some (τ0.getD k .un)
  | [], τ0, τ => ⟨rfl, fun _ _ => rfl, fun k hk => by simp at hk⟩
  | v :: vs, τ0, τ => by
    obtain ⟨l1, o1, i1⟩ := restT_get (vs := vs) (τ0 := τ0) (τ := τ)
    refine ⟨by rw [restT, List.length_set]; exact l1, fun k hk => ?_, fun k hk hl => ?_⟩
    · rw [restT, List.getElem?_set_ne fun z => hk (by simp [z])]
      exact o1 k fun z => hk (List.mem_cons_of_mem _ z)
    · rw [restT]
      by_cases e : v = k
      · subst e
        rw [List.getElem?_set_self (by rw [l1]; exact hl)]
      · rw [List.getElem?_set_ne e]
        exact i1 k ((List.mem_cons.mp hk).resolve_left fun z => e z.symm) hl
section
variable {K : PySem.W.Frag} {E E' : AS} {τ τ' τ0 τ1 τ2 : Tau} {σ σ' : L2.St} {H H' H1 H2 : Hp} {vs : List Nat} {D : Addr} {o : HO}
theorem os_wipe (h : wipeT vs τ = some τ') {a : Addr} : Os τ' (wipe σ vs) a ↔ Os τ σ a := by
  obtain ⟨l, ot, it⟩ := wipeT_get h
  constructor
  · rintro ⟨k, s, h1, h2, h3⟩
    by_cases hk : k ∈ vs
    · rw [(it k hk).1] at h1; cases h1; cases h2
    · rw [ot k hk] at h1
      rw [wipe_get hk] at h3
      exact ⟨k, s, h1, h2, h3⟩
  · rintro ⟨k, s, h1, h2, h3⟩
    by_cases hk : k ∈ vs
    · rcases (it k hk).2 with z | ⟨d, z⟩ <;> (rw [z] at h1; cases h1; cases h2)
    · exact ⟨k, s, by rw [ot k hk]; exact h1, h2, by rw [wipe_get hk]; exact h3⟩
theorem om_wipe (h : wipeT vs τ = some τ') {a : Addr} : Om τ' (wipe σ vs) a ↔ Om τ σ a := by
  obtain ⟨l, ot, it⟩ := wipeT_get h
  constructor
  · rintro ⟨k, io, d, h1, h3⟩
    by_cases hk : k ∈ vs
    · rw [(it k hk).1] at h1; cases h1
    · rw [ot k hk] at h1
      rw [wipe_get hk] at h3
      exact ⟨k, io, d, h1, h3⟩
  · rintro ⟨k, io, d, h1, h3⟩
    by_cases hk : k ∈ vs
    · rcases (it k hk).2 with z | ⟨d, z⟩ <;> (rw [z] at h1; cases h1)
    · exact ⟨k, io, d, by rw [ot k hk]; exact h1, by rw [wipe_get hk]; exact h3⟩
theorem SRep.wipe (S : SRep K E τ σ H) (h : wipeT vs τ = some τ') : SRep K E τ' (wipe σ vs) H ∧ PostS τ σ H τ' (wipe σ vs) H := by
  obtain ⟨l, ot, it⟩ := wipeT_get h
  have w : Wk (Av E τ' (L2.wipe σ vs)) H H := (Ext.refl (O := Av E τ' (L2.wipe σ vs))).wk
  have hO : ∀ a, Av E τ' (L2.wipe σ vs) a → Av E τ σ a ∨ H a = none := fun a q => .inl (q.elim .inl fun z => .inr ((os_wipe h).mp z))
  have nk : ∀ {k : Nat} {s : Sl}, τ'[k]? = some s → s ≠ .un → k ∉ vs := fun {k s} e n hk => by
    rw [(it k hk).1] at e
    cases e
    exact n rfl
  refine ⟨⟨by rw [l, wipe_length]; exact S.len, S.ex, S.tb, fun k d q => ?_, fun k io d q => ?_, fun k io d q => ?_, fun k b q => by have hk := nk q (by simp); rw [ot k hk] at q; rw [wipe_get hk]; exact S.ad k b q, fun k j s t a q1 q2 q3 q4 q5 q6 => ?_⟩, ⟨.refl, fun a q => .inl ((os_wipe h).mp q), fun a q => .inl ((om_wipe h).mp q), fun k d q => ?_, fun k io d q => ?_⟩⟩
  · have hk := nk q (by simp)
    rw [ot k hk] at q
    obtain ⟨v, y1, y2⟩ := S.sh k d q
    exact ⟨v, by rw [wipe_get hk]; exact y1, y2.mono w hO⟩
  · have hk := nk q (by simp)
    rw [ot k hk] at q
    obtain ⟨b, y1, y2, y3⟩ := S.ow k io d q
    exact ⟨b, by rw [wipe_get hk]; exact y1, y2, y3.mono w hO fun _ z => z⟩
  · have hk := nk q (by simp)
    rw [ot k hk] at q
    obtain ⟨b, y1, y2, y3, y4, y5⟩ := S.lo k io d q
    exact ⟨b, by rw [wipe_get hk]; exact y1, y2, y3, y4, y5.mono w hO fun b q => .inl fun u r _ => r⟩
  · have hk := nk q1 (fun z => by rw [z] at q3; cases q3)
    have hj := nk q2 (fun z => by rw [z] at q4; cases q4)
    rw [ot k hk] at q1
    rw [ot j hj] at q2
    rw [wipe_get hk] at q5
    rw [wipe_get hj] at q6
    exact S.inj k j s t a q1 q2 q3 q4 q5 q6
  · have hk : k ∉ vs := fun hk => by rcases (it k hk).2 with z | ⟨d, z⟩ <;> (rw [z] at q; cases q)
    exact ⟨⟨d, by rw [ot k hk]; exact q⟩, wipe_get hk⟩
  · have hk : k ∉ vs := fun hk => by rcases (it k hk).2 with z | ⟨d, z⟩ <;> (rw [z] at q; cases q)
    exact ⟨by rw [ot k hk]; exact q, wipe_get hk⟩
/-- a thing of E is written -/
theorem SRep.putE (S : SRep K E τ σ H) (hE : E D) (hm : ∀ u, H D = some u → mutO u) (ho : nTab o := by trivial) : SRep K E τ σ (upd H D o) := by
  have e : Ext E H (upd H D o) := .put hE (fun xs z => (hm _ z).tp xs rfl) (fun u z => (hm u z).pl) ho
  have w : Wk (Av E τ σ) H (upd H D o) := (e.wider fun _ z => .inl z).wk
  have hO : ∀ a, Av E τ σ a → Av E τ σ a ∨ H a = none := fun _ z => .inl z
  refine ⟨S.len, fun a q => e.dom a (S.ex a q), e.tabs S.tb, fun k d q => ?_, fun k io d q => ?_, fun k io d q => ?_, S.ad, S.inj⟩
  · obtain ⟨v, y1, y2⟩ := S.sh k d q
    exact ⟨v, y1, y2.mono w hO⟩
  · obtain ⟨b, y1, y2, y3⟩ := S.ow k io d q
    exact ⟨b, y1, y2, y3.mono w hO (y3.stay e y2)⟩
  · obtain ⟨b, y1, y2, y3, y4, y5⟩ := S.lo k io d q
    exact ⟨b, y1, y2, e.dom b y3, e.mu y2 y3 y4, y5.mono w hO fun c q => .inl fun u r z => by cases q; exact e.rd y2 r (rdN z)⟩
theorem PostS.putNew (P : PostS τ σ H τ' σ' H') (hD : H D = none) (hp : ∀ u, H' D = some u → plO u) (ho : nTab o := by trivial) : PostS τ σ H τ' σ' (upd H' D o) := by
  refine ⟨⟨fun a u ha n e => ?_, fun a xs e => ?_, fun a e => ?_, fun t => tabs_put hp ho (P.ext.tabs t)⟩, P.os, P.om, P.io, P.lo⟩
  · rw [upd_ne (ne_of_none e hD)]
    exact P.ext.keep a u ha n e
  · rw [upd_ne (ne_of_none e hD)]
    exact P.ext.tup a xs e
  · unfold upd
    split
    · simp
    · exact P.ext.dom a e
end
/-- as Dn, but for the block's own slots -/
structure DnX (vs : List Nat) (τ τ' : Tau) : Prop where
  len : τ'.length = τ.length
  le : ∀ (i : Nat) (s : Sl), i ∉ vs → τ[i]? = some s → ∃ s', τ'[i]? = some s' ∧ SlLe s s'
theorem DnX.refl {vs : List Nat} {τ : Tau} : DnX vs τ τ := ⟨rfl, fun _ s _ h => ⟨s, h, .inl rfl⟩⟩
theorem DnX.dn {vs : List Nat} {τ τ1 τ2 : Tau} (a : DnX vs τ τ1) (b : Dn τ1 τ2) : DnX vs τ τ2 := ⟨b.len.trans a.len, fun i s hi h => by
  obtain ⟨s1, h1, l1⟩ := a.le i s hi h
  obtain ⟨s2, h2, l2⟩ := b.le i s1 h1
  exact ⟨s2, h2, l1.trans l2⟩⟩
theorem DnX.same {vs : List Nat} {τ τ1 τ2 : Tau} (a : DnX vs τ τ1) (l : τ2.length = τ1.length) (b : ∀ k, k ∉ vs → τ2[k]? = τ1[k]?) : DnX vs τ τ2 := ⟨l.trans a.len, fun i s hi h => by
  obtain ⟨s1, h1, l1⟩ := a.le i s hi h
  exact ⟨s1, by rw [b i hi]; exact h1, l1⟩⟩
theorem SRep.rest {K : PySem.W.Frag} {E : AS} {τ0 τ1 τi : Tau} {σ : L2.St} {H1 Hi : Hp} {vs : List Nat} {D : Addr} (S1 : SRep K E τ1 σ H1) (h : wipeT vs τ1 = some τ0) (SF : SRep K (fun a => E a ∨ a = D) τi (L2.wipe σ vs) Hi) (un : ∀ k ∈ vs, τi[k]? = some .un)
    (Q : PostS τ0 (L2.wipe σ vs) H1 τi (L2.wipe σ vs) Hi) (hD : H1 D = none) : SRep K (fun a => E a ∨ a = D) (restT vs τ1 τi) σ Hi ∧ PostS τ1 σ H1 (restT vs τ1 τi) σ Hi ∧ ∀ a, Os (restT vs τ1 τi) σ a → Os τi (L2.wipe σ vs) a := by
  obtain ⟨l0, o0, i0⟩ := wipeT_get h
  obtain ⟨lR, oR, iR⟩ := restT_get (vs := vs) (τ0 := τ1) (τ := τi)
  have hlen : τi.length = τ1.length := by
    have e1 := SF.len
    have e2 := S1.len
    rw [wipe_length] at e1
    rw [e1, e2]
  have nk : ∀ {k : Nat} {s : Sl}, (restT vs τ1 τi)[k]? = some s → s.isO = true → k ∉ vs := fun {k s} e n hk => by
    have hl : k < τi.length := by rw [← lR]; exact (List.getElem?_eq_some_iff.mp e).1
    rw [iR k hk hl, List.getD_eq_getElem?_getD] at e
    rcases (i0 k hk).2 with z | ⟨d, z⟩ <;> (rw [z] at e; cases e; cases n)
  have subO : ∀ a, Os (restT vs τ1 τi) σ a → Os τi (L2.wipe σ vs) a := fun a ⟨k, s, z1, z2, z3⟩ => by
    have hk := nk z1 z2
    rw [oR k hk] at z1
    exact ⟨k, s, z1, z2, by rw [wipe_get hk]; exact z3⟩
  have subM : ∀ a, Om (restT vs τ1 τi) σ a → Om τi (L2.wipe σ vs) a := fun a ⟨k, io, d, z1, z3⟩ => by
    have hk := nk z1 rfl
    rw [oR k hk] at z1
    exact ⟨k, io, d, z1, by rw [wipe_get hk]; exact z3⟩
  have w : Wk (Av (fun a => E a ∨ a = D) (restT vs τ1 τi) σ) Hi Hi := (Ext.refl (O := Av (fun a => E a ∨ a = D) (restT vs τ1 τi) σ)).wk
  have hO : ∀ a, Av (fun a => E a ∨ a = D) (restT vs τ1 τi) σ a → Av (fun a => E a ∨ a = D) τi (L2.wipe σ vs) a ∨ Hi a = none := fun a q => .inl (q.elim .inl fun z => .inr (subO a z))
  have Q1 := (S1.wipe h).2
  have QQ := Q1.comp Q
  refine ⟨⟨by rw [lR, hlen]; exact S1.len, SF.ex, SF.tb, fun k d q => ?_, fun k io d q => ?_, fun k io d q => ?_, fun k b q => ?_, fun k j s t a q1 q2 q3 q4 q5 q6 => ?_⟩, ⟨QQ.ext, fun a z => QQ.os a (subO a z), fun a z => QQ.om a (subM a z), fun k d q => ?_, fun k io d q => ?_⟩, subO⟩
  · by_cases hk : k ∈ vs
    · have hl : k < τi.length := by rw [← lR]; exact (List.getElem?_eq_some_iff.mp q).1
      rw [iR k hk hl, List.getD_eq_getElem?_getD] at q
      rcases (i0 k hk).2 with z | ⟨d', z⟩
      · rw [z] at q; cases q
      · rw [z] at q
        cases q
        obtain ⟨v, y1, y2⟩ := S1.sh k d z
        refine ⟨v, y1, ?_⟩
        have r1 := y2.mono (O' := fun a => Av E τ1 σ a ∨ Av (fun a => E a ∨ a = D) (restT vs τ1 τi) σ a) (QQ.ext.wider fun a z => .inl (.inr (om_os z))).wk fun a z => by
          rcases z with z | (z | z) | z
          · exact .inl z
          · exact .inl (.inl z)
          · exact .inr (by rw [z]; exact hD)
          · exact (QQ.os a (subO a z)).elim (fun z => .inl (.inr z)) .inr
        exact r1.mono w fun a z => .inl (.inr z)
    · rw [oR k hk] at q
      obtain ⟨v, y1, y2⟩ := SF.sh k d q
      exact ⟨v, by rw [← wipe_get hk]; exact y1, y2.mono w hO⟩
  · have hk := nk q rfl
    rw [oR k hk] at q
    obtain ⟨b, y1, y2, y3⟩ := SF.ow k io d q
    exact ⟨b, by rw [← wipe_get hk]; exact y1, y2, y3.mono w hO fun _ z => z⟩
  · have hk := nk q rfl
    rw [oR k hk] at q
    obtain ⟨b, y1, y2, y3, y4, y5⟩ := SF.lo k io d q
    exact ⟨b, by rw [← wipe_get hk]; exact y1, y2, y3, y4, y5.mono w hO fun b q => .inl fun u r _ => r⟩
  · have hk : k ∉ vs := fun hk => by
      have hl : k < τi.length := by rw [← lR]; exact (List.getElem?_eq_some_iff.mp q).1
      rw [iR k hk hl, List.getD_eq_getElem?_getD] at q
      rcases (i0 k hk).2 with z | ⟨d', z⟩ <;> (rw [z] at q; cases q)
    rw [oR k hk] at q
    rw [← wipe_get hk]
    exact SF.ad k b q
  · have hk := nk q1 q3
    have hj := nk q2 q4
    rw [oR k hk] at q1
    rw [oR j hj] at q2
    exact SF.inj k j s t a q1 q2 q3 q4 (by rw [wipe_get hk]; exact q5) (by rw [wipe_get hj]; exact q6)
  · obtain ⟨⟨d', y1⟩, y2⟩ := QQ.io k d q
    have hk : k ∉ vs := fun hk => by rw [un k hk] at y1; cases y1
    exact ⟨⟨d', by rw [oR k hk]; exact y1⟩, rfl⟩
  · obtain ⟨y1, y2⟩ := QQ.lo k io d q
    have hk : k ∉ vs := fun hk => by rw [un k hk] at y1; cases y1
    exact ⟨by rw [oR k hk]; exact y1, rfl⟩
section
variable {X : Cx} {elt tg iter : Expr} {ifs : List Expr} {scope : Scope} {own : List (Str × Nat)} {ms : M (List Dt × Option Nat)} {is : List Nat} {b : MB} {mt : M Bool} {me : M Rs} {pos : Pos}
/-- the turns of a comprehension -/
theorem comp_read {K : PySem.W.Frag} {vs : List Nat} (hsub : ∀ k ∈ is, k ∈ vs) (σ : L2.St) (H : Hp) (Q : VK) (h : tOf K (mComp ms vs b mt me) σ H Q) : tLc (iOf K ms) (gOf K is b) (bOf K mt) (tOf K me) vs σ H Q := by
  obtain ⟨E, τ, r, τ', S, hm, k⟩ := h
  simp only [mComp, Option.bind_eq_some_iff, Option.map_eq_some_iff] at hm
  obtain ⟨⟨⟨items, lk⟩, τ1⟩, h1, τ0, h2, ⟨accF, τF⟩, h3, τU, h4, h5⟩ := hm
  cases h5
  refine ⟨E, τ, items, lk, τ1, S, h1, fun J H1 P D hD => ?_⟩
  obtain ⟨Y, W, hY⟩ := P.walk
  obtain ⟨l0, o0, i0⟩ := wipeT_get h2
  obtain ⟨Sw, Qw⟩ := P.rep.wipe h2
  have eD : Ext nO H1 (upd H1 D (.lst [])) := .new hD
  have Sw' : SRep K (fun a => E a ∨ a = D) τ0 (wipe σ vs) (upd H1 D (.lst [])) := Sw.growNew eD hD (by rw [upd_same]; simp)
  refine lc_it (W.mono (G' := fun H => Ext (Om τ1 σ) H1 H) (fun _ e => e) fun _ _ _ _ _ _ y => y)
    (fun i Hi => ∃ τi acc xs, PostS τ0 (wipe σ vs) H1 τi (wipe σ vs) Hi ∧ SRep K (fun a => E a ∨ a = D) τi (wipe σ vs) Hi ∧ DnX vs τ0 τi ∧ (∀ k ∈ vs, τi[k]? = some .un) ∧ Hi D = some (.lst xs) ∧ RpL K (Av (fun a => E a ∨ a = D) τi (wipe σ vs)) Hi xs acc ∧ compL vs b mt me (items.drop i) acc τi = some (accF, τF))
    ⟨τ0, [], [], PostS.refl.putNew hD (fun u z => by rw [hD] at z; cases z), Sw', .refl, fun k hk => (i0 k hk).1, upd_same, .nil, by simpa using h3⟩ (fun i Hi _ ⟨τi, acc, xs, Q, _⟩ => Q.ext.wider fun a z => (om_wipe h2).mp z) (fun i x Hi H' hi ⟨τi, acc, xs, Q, Si, dx, un, eDi, rl, hc⟩ y => ?_) fun Hi ⟨τi, acc, xs, Q, Si, dx, un, eDi, rl, hc⟩ => ?_
  · have hG : Ext (Om τ1 σ) H1 Hi := Q.ext.wider fun a z => (om_wipe h2).mp z
    obtain ⟨ex, rp⟩ := hY i Hi x H' items[i] (List.getElem?_eq_getElem hi) hG y
    rw [List.drop_eq_getElem_cons hi] at hc
    simp only [compL, Option.bind_eq_some_iff] at hc
    obtain ⟨τb, hb1, ⟨bt, τt⟩, hb2, hb3⟩ := hc
    have Q' : PostS τ0 (wipe σ vs) H1 τi (wipe σ vs) H' := Q.comp (postS_dn (ex.wider fun _ z => z.elim) .refl)
    have S' := Si.grow ex
    have eD' : H' D = some (.lst xs) := ex.keep D _ (fun z => z) trivial eDi
    have rl' : RpL K (Av (fun a => E a ∨ a = D) τi (wipe σ vs)) H' xs acc := rl.mono (wkAll ex) fun _ z => .inl z
    have rx : Rp K (Av (fun a => E a ∨ a = D) τi (wipe σ vs)) H' x items[i] := by
      have r1 := rp (fun a => Av E τ1 σ a ∨ Av (fun a => E a ∨ a = D) τi (wipe σ vs) a) (Q'.ext.wider fun a z => .inl (.inr (om_os ((om_wipe h2).mp z)))).wk fun a z => by
        rcases z with z | (z | z) | z
        · exact .inl z
        · exact .inl (.inl z)
        · exact .inr (by rw [z]; exact hD)
        · exact (Q.os a z).elim (fun z => .inl (.inr ((os_wipe h2).mp z))) .inr
      exact r1.mono (Ext.refl (O := Av (fun a => E a ∨ a = D) τi (wipe σ vs))).wk fun a z => .inl (.inr z)
    refine ⟨_, τi, items[i], τb, S', rx, hb1, fun σb Qb Sb Ob => ⟨?_, ?_⟩⟩
    · apply List.ext_getElem?
      intro k
      by_cases hk : k ∈ vs
      · by_cases hl : k < σ.length
        · rw [wipe_in hk (by rw [Ob.1, wipe_length]; exact hl), wipe_in hk hl]
        · rw [List.getElem?_eq_none (by rw [wipe_length, Ob.1, wipe_length]; omega), List.getElem?_eq_none (by rw [wipe_length]; omega)]
      · rw [wipe_get hk, wipe_get hk, (Ob.2.2 k fun z => hk (hsub k z)).1, wipe_get hk]
    · refine ⟨_, τb, bt, τt, Sb, hb2, fun H3 Pt => ?_⟩
      have eσ : wipe σb vs = wipe σ vs := by
        apply List.ext_getElem?
        intro k
        by_cases hk : k ∈ vs
        · by_cases hl : k < σ.length
          · rw [wipe_in hk (by rw [Ob.1, wipe_length]; exact hl), wipe_in hk hl]
          · rw [List.getElem?_eq_none (by rw [wipe_length, Ob.1, wipe_length]; omega), List.getElem?_eq_none (by rw [wipe_length]; omega)]
        · rw [wipe_get hk, (Ob.2.2 k fun z => hk (hsub k z)).1, wipe_get hk]
      have dxb : DnX vs τ0 τb := dx.same Ob.2.1 fun k hk => (Ob.2.2 k fun z => hk (hsub k z)).2
      have Qb' : PostS τ0 (wipe σ vs) H1 τb σb H' := Q'.comp Qb
      have nDm : ∀ {τx σx Hx}, SRep K (fun a => E a ∨ a = D) τx σx Hx → ¬ Om τx σx D := fun S z => (S.os_at (om_os z)).2 (.inr rfl)
      have toEnd : ∀ {τx : Tau} {τ2 : Tau} {H4 : Hp} {accN : List Dt} {xsN : List V}, PostS τ0 (wipe σ vs) H1 τx σb H4 → SRep K (fun a => E a ∨ a = D) τx σb H4 → DnX vs τ0 τx → wipeT vs τx = some τ2 → H4 D = some (.lst xsN) →
          RpL K (Av (fun a => E a ∨ a = D) τx σb) H4 xsN accN → compL vs b mt me (items.drop (i + 1)) accN τ2 = some (accF, τF) →
          ∃ τi acc xs, PostS τ0 (wipe σ vs) H1 τi (wipe σ vs) H4 ∧ SRep K (fun a => E a ∨ a = D) τi (wipe σ vs) H4 ∧ DnX vs τ0 τi ∧ (∀ k ∈ vs, τi[k]? = some .un) ∧ H4 D = some (.lst xs) ∧ RpL K (Av (fun a => E a ∨ a = D) τi (wipe σ vs)) H4 xs acc ∧ compL vs b mt me (items.drop (i + 1)) acc τi = some (accF, τF) := by
        intro τx τ2 H4 accN xsN Qx Sx dxx hw eDx rlx hcx
        obtain ⟨S2, Q2⟩ := Sx.wipe hw
        rw [eσ] at S2 Q2
        obtain ⟨l2, o2, i2⟩ := wipeT_get hw
        refine ⟨τ2, accN, xsN, Qx.comp Q2, S2, dxx.same l2 o2, fun k hk => (i2 k hk).1, eDx, rlx.mono (Ext.refl (O := Av (fun a => E a ∨ a = D) τ2 (wipe σ vs))).wk fun a z => ?_, hcx⟩
        rcases z with z | z
        · exact .inl (.inl z)
        · rw [← eσ] at z
          exact .inl (.inr ((os_wipe hw).mp z))
      have xsOn : ∀ {τx H3}, PostB K (fun a => E a ∨ a = D) τb σb H' τx H3 → H3 D = some (.lst xs) ∧ RpL K (Av (fun a => E a ∨ a = D) τx σb) H3 xs acc := fun {τx H3} B => by
        refine ⟨B.ext.keep D _ (nDm Sb) trivial eD', ?_⟩
        have r1 : RpL K (Av (fun a => E a ∨ a = D) τb σb) H' xs acc := rl'.mono (Ext.refl (O := Av (fun a => E a ∨ a = D) τb σb)).wk fun a z => by
          rcases z with z | z
          · exact .inl (.inl z)
          · exact (Qb.os a z).elim (fun z => .inl (.inr z)) .inr
        exact (r1.mono (O' := Av (fun a => E a ∨ a = D) τb σb) (B.ext.wider fun a z => .inr (om_os z)).wk fun a z => .inl z).mono (Ext.refl (O := Av (fun a => E a ∨ a = D) τx σb)).wk fun a z => .inl (z.elim .inl fun z => .inr (B.dn.os z))
      cases bt with
      | false =>
        simp only [Bool.false_eq_true, if_false] at hb3 ⊢
        simp only [Option.bind_eq_some_iff] at hb3
        obtain ⟨τ2, hw, hcx⟩ := hb3
        obtain ⟨e3, r3⟩ := xsOn Pt
        exact toEnd (Qb'.comp Pt.s) Pt.rep (dxb.dn Pt.dn) hw e3 r3 hcx
      | true =>
        simp only [if_true, Option.bind_eq_some_iff] at hb3 ⊢
        obtain ⟨⟨re, τe⟩, he1, ⟨de, τs⟩, he2, he3⟩ := hb3
        split at he3
        · rename_i hlen
          simp only [Option.bind_eq_some_iff] at he3
          obtain ⟨τ2, hw, hcx⟩ := he3
          refine ⟨_, τt, re, τe, Pt.rep, he1, fun y H4 Pe => ?_⟩
          have Ps := Pe.share he2
          have B := Pt.comp Ps.b
          obtain ⟨e4, r4⟩ := xsOn B
          have S4 := Ps.res.1
          have eP : Ext (fun a => E a ∨ a = D) H4 (upd H4 D (.lst (xs ++ [y]))) := .put (.inr rfl) (fun ys z => by rw [e4] at z; cases z) fun u z => by rw [e4] at z; cases z; trivial
          have wP : Wk (Av (fun a => E a ∨ a = D) τs σb) H4 (upd H4 D (.lst (xs ++ [y]))) := (eP.wider fun _ z => .inl z).wk
          refine ⟨xs, e4, by rw [r4.length]; exact hlen, ?_⟩
          exact toEnd ((Qb'.comp B.s).putNew hD fun u z => by rw [e4] at z; cases z; trivial) (S4.putE (.inr rfl) fun u z => by rw [e4] at z; cases z; trivial) (dxb.dn B.dn) hw upd_same ((r4.mono wP fun _ z => .inl z).snoc (Ps.res.2.mono wP fun _ z => .inl z)) hcx
        · cases he3
  · simp only [List.drop_length, compL] at hc
    cases hc
    obtain ⟨SR, QR, oR⟩ := SRep.rest P.rep h2 Si un Q hD
    obtain ⟨QE, SE2, oE⟩ := end_walk P QR SR (fun a z => z.elim (fun z => .inl (.inl z)) fun z => .inr (by rw [z]; exact hD)) h4
    have dR : ∀ (k : Nat) s, τ1[k]? = some s → ∃ s', (restT vs τ1 τF)[k]? = some s' ∧ SlLe s s' := fun k s e => by
      by_cases hk : k ∈ vs
      · have hl : k < τF.length := by rw [dx.len, l0]; exact (List.getElem?_eq_some_iff.mp e).1
        refine ⟨s, ?_, .inl rfl⟩
        rw [restT_get.2.2 k hk hl, List.getD_eq_getElem?_getD, e]
        rfl
      · obtain ⟨s', y1, y2⟩ := dx.le k s hk (by rw [o0 k hk]; exact e)
        exact ⟨s', by rw [restT_get.2.1 k hk]; exact y1, y2⟩
    have lR : (restT vs τ1 τF).length = τ1.length := by rw [restT_get.1, dx.len, l0]
    have dn : Dn τ τ' := by
      obtain ⟨τL, d1, d2, d3⟩ := P.dn
      cases lk with
      | none =>
        cases h4
        have := d2 rfl
        subst this
        exact d1.trans ⟨lR, dR⟩
      | some i =>
        have hl := d3 i rfl
        unfold lockI at hl
        split at hl
        · rename_i io dd e
          cases hl
          have hi := (List.getElem?_eq_some_iff.mp e).1
          obtain ⟨s', y1, y2⟩ := dR i _ (List.getElem?_set_self hi)
          have ys : s' = .lo io dd := by
            rcases y2 with z | ⟨_, _, _, z, _⟩ | ⟨_, _, z, _⟩
            · exact z
            · cases z
            · cases z
          subst ys
          have h4' : unlockI i (restT vs (τL.set i (.lo io dd)) τF) = some τ' := h4
          unfold unlockI at h4'
          rw [y1] at h4'
          cases h4'
          refine d1.trans ⟨by rw [List.length_set, lR, List.length_set], fun k s q => ?_⟩
          by_cases hk : i = k
          · subst hk
            rw [e] at q
            cases q
            exact ⟨_, List.getElem?_set_self (List.getElem?_eq_some_iff.mp y1).1, .inl rfl⟩
          · rw [List.getElem?_set_ne hk]
            exact dR k s (by rw [List.getElem?_set_ne hk]; exact q)
        · cases hl
    have nD : H D = none := none_back P.ext hD
    refine k _ _ ⟨QE.ext, dn, D, rfl, nD, fun z => S.ex D z nD, SE2, .lst eDi (rl.mono (Ext.refl (O := Av (fun a => E a ∨ a = D) τ' σ)).wk fun a z => ?_)⟩
    rcases z with z | z
    · exact .inl (.inl z)
    · exact .inl (.inr (oR a (oE a z)))
/-- the tests of a comprehension -/
structure STs (X : Cx) (ifs : List Expr) (t : M Bool) : Prop where
  pts : PTs X ifs (bOf X.K t)
theorem sts_nil {X : Cx} : STs X [] tAll := by
  refine ⟨⟨fun pins s σ H Q I h => pts_nil.run pins s σ H Q I ?_⟩⟩
  obtain ⟨E, τ, b, τ', S, hm, k⟩ := h
  cases hm
  exact k H (.refl S)
theorem sts_one {X : Cx} {c : Expr} {t : M Bool} (h : ST X c t) : STs X [c] t := ⟨pts_one h.pt⟩
theorem se_lc (hc : X.calm = true) (hN : X.N.Nodup) (hi : SI X tg iter ms) (ok : BlkOk X.N X.env.scope scope own) (hsub : ∀ k ∈ is, k ∈ own.map (·.2))
    (hg : ∀ (s : Shared) (H : Hp) (C : Addr) (cl : List (Str × Addr)) (fp : List Addr), SG (X.blk s H scope (compEnvC scope cl C X.env) fp) tg is b)
    (ht : ∀ (s : Shared) (H : Hp) (C : Addr) (cl : List (Str × Addr)) (fp : List Addr), STs (X.blk s H scope (compEnvC scope cl C X.env) fp) ifs mt)
    (he : ∀ (s : Shared) (H : Hp) (C : Addr) (cl : List (Str × Addr)) (fp : List Addr), SE (X.blk s H scope (compEnvC scope cl C X.env) fp) elt me) (hs : ∀ x, foldedSetIterable iter X.env x = pure x := by intro _; rfl) :
    SE X (.ListComp elt [⟨tg, iter, ifs, 0⟩] scope pos) (mComp ms (own.map (·.2)) b mt me) :=
  ⟨peW (pe_lc (g := gOf X.K is b) (tt := bOf X.K mt) (te := tOf X.K me) hc hN hi.pi ok (fun s H C cl fp => (hg s H C cl fp).pg) (fun s H C cl fp => (ht s H C cl fp).pts) (fun s H C cl fp => (he s H C cl fp).pe) hs) (comp_read hsub)⟩
theorem ss_setLc {i : Nat} {y : Str} {py spos : Pos} (hc : X.calm = true) (hN : X.N.Nodup) (hy : X.N[i]? = some y) (hyl : X.env.scope.names.lookup y = some .local)
    (hsw : swapsWith (.ListComp elt [⟨tg, iter, ifs, 0⟩] scope pos) (some (.Name y py)) spos.line X.env = pure true) (hi : SI X tg iter ms) (ok : BlkOk X.N X.env.scope scope own) (hsub : ∀ k ∈ is, k ∈ own.map (·.2))
    (hg : ∀ (s : Shared) (H : Hp) (C : Addr) (cl : List (Str × Addr)) (fp : List Addr), SG (X.blk s H scope (compEnvC scope cl C X.env) fp) tg is b)
    (ht : ∀ (s : Shared) (H : Hp) (C : Addr) (cl : List (Str × Addr)) (fp : List Addr), STs (X.blk s H scope (compEnvC scope cl C X.env) fp) ifs mt)
    (he : ∀ (s : Shared) (H : Hp) (C : Addr) (cl : List (Str × Addr)) (fp : List Addr), SE (X.blk s H scope (compEnvC scope cl C X.env) fp) elt me) (hs : ∀ x, foldedSetIterable iter X.env x = pure x := by intro _; rfl) :
    SS X (.Assign [.Name y py] (.ListComp elt [⟨tg, iter, ifs, 0⟩] scope pos) spos) (mSet i (mComp ms (own.map (·.2)) b mt me)) := by
  refine ⟨psW (ps_setLc (g := gOf X.K is b) (tt := bOf X.K mt) (te := tOf X.K me) hc hN hy hyl hsw hi.pi ok (fun s H C cl fp => (hg s H C cl fp).pg) (fun s H C cl fp => (ht s H C cl fp).pts) (fun s H C cl fp => (he s H C cl fp).pe) hs) fun D σ H h => ?_⟩
  obtain ⟨E, τ, o, τ', S, hm, k⟩ := h
  simp only [mSet, Option.bind_eq_some_iff] at hm
  obtain ⟨⟨r, τ1⟩, h1, h2⟩ := hm
  exact comp_read hsub σ H _ ⟨E, τ, r, τ1, S, h1, fun v H1 P => mSet_end P k h2⟩
end
end Iv
set_option Elab.async false
set_option linter.all false
set_option maxRecDepth 100000
set_option maxHeartbeats 2000000
namespace Iv
open PySem L2 PyProof.Rows
variable [Cst]
/-! ### while -/
def whileL (t : M Bool) (body : MS) : Nat → MS
  | 0, _ => none
  | n + 1, τ => (t τ).bind fun p => if p.1 = true then (body p.2).bind fun q => match q.1 with
      | .nx => whileL t body n q.2
      | .ct => whileL t body n q.2
      | .bk => some (.nx, q.2)
      | .rt d f => some (.rt d f, q.2)
    else some (.nx, p.2)
def mWhile (t : M Bool) (body : MS) : MS := whileL t body 1000000000
section
variable {X : Cx} {c : Expr} {body : List Stmt} {mt : M Bool} {mb : MS} {pos : Pos}
theorem ss_while (hp : PassesOwn (model X.prog X.w) X.A X.env X.xe) (hc : ST X c mt) (hb : SB X body mb) : SS X (.While c body [] pos) (mWhile mt mb) := by
  refine ⟨psW (ps_while hp hc.pt hb.pss) fun D σ H h => ?_⟩
  obtain ⟨E, τ, o, τ', S, hm, k⟩ := h
  refine ⟨fun m σi Hi => ∃ τi, PostS τ σ H τi σi Hi ∧ SRep X.K E τi σi Hi ∧ whileL mt mb m τi = some (o, τ'), ⟨_, τ, .refl, S, hm⟩, fun m σi Hi ⟨τi, Q, Si, hw⟩ => ?_⟩
  cases m with
  | zero => cases hw
  | succ m =>
    simp only [whileL, Option.bind_eq_some_iff] at hw
    obtain ⟨⟨bt, τt⟩, h1, h2⟩ := hw
    refine ⟨E, τi, bt, τt, Si, h1, fun H1 Pt => ?_⟩
    cases bt with
    | true =>
      simp only [if_true, Option.bind_eq_some_iff] at h2 ⊢
      obtain ⟨⟨ob, τb⟩, h3, h4⟩ := h2
      refine ⟨fun σ2 H2 => ∃ τ2, PostS τ σ H τ2 σ2 H2 ∧ SRep X.K E τ2 σ2 H2 ∧ whileL mt mb m τ2 = some (o, τ'), fun σ' H' q => ⟨m, Nat.lt_succ_self m, q⟩, E, τt, ob, τb, Pt.rep, h3, ?_⟩
      have QQ := Q.comp Pt.s
      cases ob with
      | nx => exact fun σ2 H2 Q2 S2 => ⟨τb, QQ.comp Q2, S2, h4⟩
      | ct => exact fun σ2 H2 Q2 S2 => ⟨τb, QQ.comp Q2, S2, h4⟩
      | bk => cases h4; exact fun σ2 H2 Q2 S2 => k σ2 H2 (QQ.comp Q2) S2
      | rt d fr => cases h4; exact fun σ2 H2 v Q2 r => k σ2 H2 v (QQ.comp Q2) (r.back QQ)
    | false =>
      simp only [Bool.false_eq_true, if_false] at h2 ⊢
      cases h2
      exact k σi H1 (Q.comp Pt.s) Pt.rep
end
/-! ### things without lists and dicts within -/
mutual
def pureD : Dt → Bool
  | .none => true
  | .bool _ => true
  | .int _ => true
  | .str _ => true
  | .tuple ds => pureL ds
  | .list _ => false
  | .dict _ => false
def pureL : List Dt → Bool
  | [] => true
  | d :: ds => pureD d && pureL ds
end
/-- what is within is pure -/
def pureI : Dt → Bool
  | .list ds => pureL ds
  | .dict kvs => kvs.all fun kv => pureD kv.2
  | d => pureD d
theorem pureD_tuple (ds : List Dt) : pureD (.tuple ds) = pureL ds := by simp only [pureD]
theorem pure_any {K : PySem.W.Frag} {O : AS} {H : Hp} : (∀ {v d}, Rp K O H v d → pureD d = true → ∀ O', Rp K O' H v d) ∧ ∀ {vs ds}, RpL K O H vs ds → pureL ds = true → ∀ O', RpL K O' H vs ds := by
  have R := @Rp.rec _ K O H (fun v d _ => pureD d = true → ∀ O', Rp K O' H v d) (fun vs ds _ => pureL ds = true → ∀ O', RpL K O' H vs ds) (fun _ _ _ => True) (fun _ _ _ => True)
    (fun _ _ => .non) (fun b _ _ => .bl b) (fun i _ _ => .int i) (fun x _ _ => .str x) (fun n r _ q h => by simp [pureD] at h) (fun r _ q h => by simp [pureD] at h) (fun r _ q h O' => .tup r (q (by rw [← pureD_tuple]; exact h) O')) (fun c r _ q h O' => .tuk c r (q (by rw [← pureD_tuple]; exact h) O'))
    (fun n r _ q h => by simp [pureD] at h) (fun n r _ q h => by simp [pureD] at h) (fun _ _ => .nil) (fun _ _ a b h O' => by
      simp only [pureL, Bool.and_eq_true] at h
      exact .cons (a h.1 O') (b h.2 O')) trivial (fun _ _ _ _ => trivial) trivial (fun _ _ _ _ => trivial)
  have RL := @RpL.rec _ K O H (fun v d _ => pureD d = true → ∀ O', Rp K O' H v d) (fun vs ds _ => pureL ds = true → ∀ O', RpL K O' H vs ds) (fun _ _ _ => True) (fun _ _ _ => True)
    (fun _ _ => .non) (fun b _ _ => .bl b) (fun i _ _ => .int i) (fun x _ _ => .str x) (fun n r _ q h => by simp [pureD] at h) (fun r _ q h => by simp [pureD] at h) (fun r _ q h O' => .tup r (q (by rw [← pureD_tuple]; exact h) O')) (fun c r _ q h O' => .tuk c r (q (by rw [← pureD_tuple]; exact h) O'))
    (fun n r _ q h => by simp [pureD] at h) (fun n r _ q h => by simp [pureD] at h) (fun _ _ => .nil) (fun _ _ a b h O' => by
      simp only [pureL, Bool.and_eq_true] at h
      exact .cons (a h.1 O') (b h.2 O')) trivial (fun _ _ _ _ => trivial) trivial (fun _ _ _ _ => trivial)
  exact ⟨fun {v d} h => R h, fun {v d} h => RL h⟩
theorem pureK_any {K : PySem.W.Frag} {O O' : AS} {H : Hp} : ∀ {vs : List (Key × V)} {ds : List (Dt × Dt)}, RpK K O H vs ds → (ds.all fun kv => pureD kv.2) = true → RpK K O' H vs ds
  | _, _, .nil, _ => .nil
  | _, _, .cons a b, h => by
    simp only [List.all_cons, Bool.and_eq_true] at h
    exact .cons (pure_any.1 a h.1 _) (pureK_any b h.2)
theorem pureT_any {K : PySem.W.Frag} {O O' : AS} {H : Hp} : ∀ {vs : List (List Key × V)} {ds : List (Dt × Dt)}, RpT K O H vs ds → (ds.all fun kv => pureD kv.2) = true → RpT K O' H vs ds
  | _, _, .nil, _ => .nil
  | _, _, .cons a b, h => by
    simp only [List.all_cons, Bool.and_eq_true] at h
    exact .cons (pure_any.1 a h.1 _) (pureT_any b h.2)
theorem Own.pure {K : PySem.W.Frag} {O O' : AS} {H : Hp} {a : Addr} {d : Dt} (w : Own K O H a d) (h : pureI d = true) : Own K O' H a d := by
  cases w with
  | lst e r => exact .lst e (pure_any.2 r h _)
  | dK e r => exact .dK e (pureK_any r h)
  | dT e r => exact .dT e (pureT_any r h)
end Iv
set_option Elab.async false
set_option linter.all false
set_option maxRecDepth 100000
set_option maxHeartbeats 2000000
namespace Iv
open PySem L2 PyProof.Rows
variable [Cst]
/-! ### defs -/
def okPar : Sl → Bool
  | .sh _ => true
  | .ad _ => true
  | .ow true _ => true
  | _ => false
def keepIo : Sl → Sl → Sl
  | .ow true _, .ow true d => .ow true d
  | _, _ => .un
def keepT (τ0 τ' : Tau) : Tau := τ0.mapIdx fun i s => keepIo s (τ'.getD i .un)
/-- a def by its body, on its parameters' slots -/
def gFn (np nN : Nat) (mb : MS) : M (Dt × Bool) := fun τ0 =>
  if τ0.length = np ∧ np ≤ nN ∧ τ0.all okPar = true then (mb (τ0 ++ List.replicate (nN - np) .un)).bind fun p => match p.1 with
    | .nx => some ((.none, false), keepT τ0 p.2)
    | .rt d fr => some ((d, fr), keepT τ0 p.2)
    | _ => none
  else none
structure CallP (K : PySem.W.Frag) (Ex : AS) (τ0 : Tau) (σ0 : L2.St) (H : Hp) (r : Dt) (fr : Bool) (τ1 : Tau) (v : V) (H' : Hp) : Prop where
  ext : Ext (Om τ0 σ0) H H'
  ret : match fr with
    | false => SRep K Ex τ1 σ0 H' ∧ Rp K (Av Ex τ1 σ0) H' v r
    | true => ∃ p, v = .ref p ∧ H p = none ∧ SRep K (fun a => Ex a ∨ a = p) τ1 σ0 H' ∧ Own K (Av (fun a => Ex a ∨ a = p) τ1 σ0) H' p r
/-- what a def promises: it does what g says -/
def spG (K : PySem.W.Frag) (np : Nat) (g : M (Dt × Bool)) : Sp := fun vs H Q _ => vs.length = np ∧ ∃ Ex τ0 r fr τ1, SRep K Ex τ0 (vs.map some) H ∧ (∀ (k : Nat) (s : Sl), τ0[k]? = some s → okPar s = true) ∧ g τ0 = some ((r, fr), τ1) ∧ ∀ v H', CallP K Ex τ0 (vs.map some) H r fr τ1 v H' → Q v H'
/-- a def's promise, where nothing is being shown -/
structure FnG (P : Program) (w : World) (K : PySem.W.Frag) (mg : Str → Option Value) (base : Heap) (CX : CXT) (k : Nat) (f : Addr) (fd : FuncData) (ps : List Str) (sp : Sp) : Prop where
  len : ∀ vs H Q E, sp vs H Q E → vs.length = ps.length
  run : ∀ (A : Around) (outer : List Env) (s : Shared) (H : Hp) (args : Args) (us : List Value) (vs : List V) (Q : VK) (E : XK), A.guards = some [] → Room k A → Env0 P w K mg base A outer s H → BindsTo s fd args (ps.zip us) → Vals vs us → sp vs H Q E →
    codeAny (model P w) A (.call (.ref f) args) (CR CX outer P w H s Q E) s
theorem FnG.mono {P : Program} {w : World} {K : PySem.W.Frag} {mg : Str → Option Value} {base : Heap} {CX : CXT} {j k : Nat} {f : Addr} {fd : FuncData} {ps : List Str} {sp : Sp} (F : FnG P w K mg base CX j f fd ps sp) (h : j ≤ k) : FnG P w K mg base CX k f fd ps sp :=
  ⟨F.len, fun A outer s H args us vs Q E hG hr => F.run A outer s H args us vs Q E hG (hr.mono h)⟩
section
variable {P : Program} {w : World} {K : PySem.W.Frag} {mg : Str → Option Value} {base : Heap} {CX : CXT} {k : Nat} {f : Addr} {fd : FuncData} {name qual : Str} {st : Stmt} {N ps : List Str} {sp : Sp}
/-- from a body's walk -/
theorem fnG_walk (F : Fun K name qual st f fd) (S : FnScope N ps (defScope st)) (len : ∀ vs H Q E, sp vs H Q E → vs.length = ps.length)
    (hbody : ∀ (cdv : Value) (A : Around) (outer : List Env) (s : Shared) (H : Hp) (vs : List V) (Q : VK) (E : XK), A.guards = some [] → Room k (A.deeper (envOfC qual (defScope st) s.heap.objs.size f cdv)) → sp vs H Q E →
      ∃ t, PSs (cxOf CX P w K mg base N qual (defScope st) f cdv A outer s H E) (defBody st) t ∧ t { nx := fun _ H' => Q .non H', rt := Q } (L2.start N vs) H) : FnG P w K mg base CX (k + 1) f fd ps sp := by
  obtain ⟨oc, od, kV, doc, pm, an, cdv, ct, osl, rfl, lk, hcd⟩ := F.ex
  refine ⟨len, fun A outer s H args us vs Q E hG hr e0 hb r hsp => ?_⟩
  have kin : K.In s.heap := e0.mod.kin.keeps fun b o e => (e0.bs b o e).1
  have nolim : s.heap.NoLimit := e0.mod.nolimit.keeps fun b o e => (e0.bs b o e).1
  have hl := len _ _ _ _ hsp
  have kinds : ∀ y ∈ ps.zip us, (defScope st).names.lookup y.1 = some .local ∨ ((defScope st).names.lookup y.1 = some .cell ∧ ((cellsFrom (s.heap.objs.size + 1) (defScope st).names []).lookup y.1).isSome = true) := by
    rintro ⟨n, v⟩ hy
    exact (S.par n (List.of_mem_zip hy).1).imp id fun q => ⟨q, PySem.W.cellsFrom_some _ _ _ (.inl q)⟩
  refine codeAny_call_function hr.depth (kin _ _ lk) rfl S.co S.gen rfl (PySem.W.codeRec_of kin hcd) (hb _ _ _ _ (wpAny_newFunctionEnv_cells S.kind kinds fun env he s1 x => ?_))
  subst he
  obtain ⟨t, ht, hq⟩ := hbody cdv A outer s H vs Q E hG (hr.deeper _) hsp
  refine ⟨nolim.keeps x.toInCall.keep, codeAny_func (wpAny_mono (ht.run [] s1 (L2.start N vs) H _ (inv_start S hr.hd e0 hl r x) hq) (fun fl s' hs => ?_) fun e s' hs => hs)⟩
  cases fl with
  | next => obtain ⟨σ', H', J, q⟩ := hs; exact ⟨V.non, H', J.os, J.bare, J.base, J.hok, rfl, q⟩
  | ret u => obtain ⟨v, σ', H', J, rv, q⟩ := hs; exact ⟨v, H', J.os, J.bare, J.base, J.hok, rv, q⟩
  | brk => obtain ⟨_, _, _, q⟩ := hs; exact q.elim
  | cont => obtain ⟨_, _, _, q⟩ := hs; exact q.elim
end
section
variable {K : PySem.W.Frag} {E : AS} {τ0 τ' : Tau} {σ0 σ' : L2.St} {H H' : Hp} {n : Nat} {a : Addr}
theorem pad_get {i : Nat} {s : Sl} (h : (τ0 ++ List.replicate n Sl.un)[i]? = some s) (ne : s ≠ .un) : τ0[i]? = some s := by
  by_cases hi : i < τ0.length
  · rw [List.getElem?_append_left hi] at h
    exact h
  · rw [List.getElem?_append_right (Nat.not_lt.mp hi)] at h
    have := List.getElem?_eq_some_iff.mp h
    obtain ⟨h1, h2⟩ := this
    rw [List.getElem_replicate] at h2
    exact absurd h2.symm ne
theorem padσ_get {i : Nat} {s : Sl} (hl : τ0.length = σ0.length) (h : τ0[i]? = some s) : (σ0 ++ List.replicate n none)[i]? = σ0[i]? := by
  have hi := (List.getElem?_eq_some_iff.mp h).1
  rw [List.getElem?_append_left (by rw [← hl]; exact hi)]
theorem os_pad (hl : τ0.length = σ0.length) (h : Os (τ0 ++ List.replicate n .un) (σ0 ++ List.replicate n none) a) : Os τ0 σ0 a := by
  obtain ⟨i, s, h1, h2, h3⟩ := h
  have h4 := pad_get h1 fun z => by rw [z] at h2; cases h2
  rw [padσ_get hl h4] at h3
  exact ⟨i, s, h4, h2, h3⟩
theorem om_pad (hl : τ0.length = σ0.length) (h : Om (τ0 ++ List.replicate n .un) (σ0 ++ List.replicate n none) a) : Om τ0 σ0 a := by
  obtain ⟨i, io, d, h1, h3⟩ := h
  have h4 := pad_get h1 (by simp)
  rw [padσ_get hl h4] at h3
  exact ⟨i, io, d, h4, h3⟩
theorem SRep.pad (S : SRep K E τ0 σ0 H) : SRep K E (τ0 ++ List.replicate n .un) (σ0 ++ List.replicate n none) H := by
  have w : Wk (Av E (τ0 ++ List.replicate n .un) (σ0 ++ List.replicate n none)) H H := (Ext.refl (O := Av E (τ0 ++ List.replicate n .un) (σ0 ++ List.replicate n none))).wk
  have hO : ∀ a, Av E (τ0 ++ List.replicate n .un) (σ0 ++ List.replicate n none) a → Av E τ0 σ0 a ∨ H a = none := fun a q => .inl (q.elim .inl fun z => .inr (os_pad S.len z))
  refine ⟨by simp [S.len], S.ex, S.tb, fun i d q => ?_, fun i io d q => ?_, fun i io d q => ?_, fun i b q => by have q' := pad_get q (by simp); rw [padσ_get S.len q']; exact S.ad i b q', fun i j s t b q1 q2 q3 q4 q5 q6 => ?_⟩
  · have q' := pad_get q (by simp)
    obtain ⟨v, y1, y2⟩ := S.sh i d q'
    exact ⟨v, by rw [padσ_get S.len q']; exact y1, y2.mono w hO⟩
  · have q' := pad_get q (by simp)
    obtain ⟨b, y1, y2, y3⟩ := S.ow i io d q'
    exact ⟨b, by rw [padσ_get S.len q']; exact y1, y2, y3.mono w hO fun _ z => z⟩
  · have q' := pad_get q (by simp)
    obtain ⟨b, y1, y2, y3, y4, y5⟩ := S.lo i io d q'
    exact ⟨b, by rw [padσ_get S.len q']; exact y1, y2, y3, y4, y5.mono w hO fun b q => .inl fun u r _ => r⟩
  · have p1 := pad_get q1 fun z => by rw [z] at q3; cases q3
    have p2 := pad_get q2 fun z => by rw [z] at q4; cases q4
    rw [padσ_get S.len p1] at q5
    rw [padσ_get S.len p2] at q6
    exact S.inj i j s t b p1 p2 q3 q4 q5 q6
theorem keepT_get {i : Nat} {s : Sl} (h : (keepT τ0 τ')[i]? = some s) (ne : s ≠ .un) : ∃ d d', τ0[i]? = some (.ow true d) ∧ τ'[i]? = some (.ow true d') ∧ s = .ow true d' := by
  unfold keepT at h
  rw [List.getElem?_mapIdx] at h
  cases e : τ0[i]? with
  | none => rw [e] at h; cases h
  | some s0 =>
    rw [e] at h
    have h : keepIo s0 (τ'.getD i .un) = s := Option.some.inj h
    unfold keepIo at h
    split at h
    · rename_i d0 hq hz
      rw [List.getD_eq_getElem?_getD] at hq
      refine ⟨_, _, rfl, ?_, h.symm⟩
      cases e3 : τ'[i]? with
      | none => rw [e3] at hq; cases hq
      | some s1 =>
        rw [e3] at hq
        exact congrArg some hq
    · exact absurd h.symm ne
theorem SRep.io {τp : Tau} {σp : L2.St} {H0 : Hp} (S : SRep K E τ' σ' H') (hl : τ0.length = σ0.length) (P : PostS τp σp H0 τ' σ' H') (hτ : ∀ (i : Nat) s, τ0[i]? = some s → τp[i]? = some s ∧ σp[i]? = σ0[i]?) : SRep K E (keepT τ0 τ') σ0 H' ∧ ∀ a, Os (keepT τ0 τ') σ0 a → Os τ' σ' a := by
  have at' : ∀ {i : Nat} {s : Sl}, (keepT τ0 τ')[i]? = some s → s ≠ .un → ∃ d', τ'[i]? = some (.ow true d') ∧ s = .ow true d' ∧ σ'[i]? = σ0[i]? := fun {i s} h ne => by
    obtain ⟨d, d', h1, h2, h3⟩ := keepT_get h ne
    obtain ⟨z1, z2⟩ := hτ i _ h1
    exact ⟨d', h2, h3, (P.io i d z1).2.trans z2⟩
  have subO : ∀ a, Os (keepT τ0 τ') σ0 a → Os τ' σ' a := fun a ⟨i, s, h1, h2, h3⟩ => by
    obtain ⟨d', z1, z2, z3⟩ := at' h1 fun z => by rw [z] at h2; cases h2
    exact ⟨i, _, z1, rfl, by rw [z3]; exact h3⟩
  have w : Wk (Av E (keepT τ0 τ') σ0) H' H' := (Ext.refl (O := Av E (keepT τ0 τ') σ0)).wk
  have hO : ∀ a, Av E (keepT τ0 τ') σ0 a → Av E τ' σ' a ∨ H' a = none := fun a q => .inl (q.elim .inl fun z => .inr (subO a z))
  refine ⟨⟨by unfold keepT; rw [List.length_mapIdx]; exact hl, S.ex, S.tb, fun i d q => ?_, fun i io d q => ?_, fun i io d q => ?_, fun i b q => by (obtain ⟨d', _, z, _⟩ := at' q (by simp); cases z), fun i j s t b q1 q2 q3 q4 q5 q6 => ?_⟩, subO⟩
  · obtain ⟨d', _, z, _⟩ := at' q (by simp)
    cases z
  · obtain ⟨d', z1, z2, z3⟩ := at' q (by simp)
    cases z2
    obtain ⟨b, y1, y2, y3⟩ := S.ow i true d z1
    exact ⟨b, by rw [← z3]; exact y1, y2, y3.mono w hO fun _ z => z⟩
  · obtain ⟨d', _, z, _⟩ := at' q (by simp)
    cases z
  · obtain ⟨d1, z1, z2, z3⟩ := at' q1 fun z => by rw [z] at q3; cases q3
    obtain ⟨d2, y1, y2, y3⟩ := at' q2 fun z => by rw [z] at q4; cases q4
    exact S.inj i j _ _ b z1 y1 rfl rfl (by rw [z3]; exact q5) (by rw [y3]; exact q6)
end
section
variable {P : Program} {w : World} {K : PySem.W.Frag} {mg : Str → Option Value} {base : Heap} {k : Nat} {f : Addr} {fd : FuncData} {name qual : Str} {st : Stmt} {N ps : List Str} {mb : MS}
/-- what a def's promise asks of its body -/
theorem gFn_read {vs : List V} {H : Hp} {Q : VK} {E : XK} (hsp : spG K ps.length (gFn ps.length N.length mb) vs H Q E) : sOf K mb { nx := fun _ H' => Q .non H', rt := Q } (L2.start N vs) H := by
  obtain ⟨hl, Ex, τ0, r, fr, τ1, S0, okp, hg, kq⟩ := hsp
  unfold gFn at hg
  split at hg
  · rename_i hc
    obtain ⟨h1, h2, h3⟩ := hc
    simp only [Option.bind_eq_some_iff] at hg
    obtain ⟨⟨o, τe⟩, hm, he⟩ := hg
    have eσ : L2.start N vs = vs.map some ++ List.replicate (N.length - ps.length) none := by unfold L2.start; rw [hl]
    rw [eσ]
    have Sp := S0.pad (n := N.length - ps.length)
    have hlen : τ0.length = (vs.map some).length := S0.len
    have old : ∀ (i : Nat) s, τ0[i]? = some s → (τ0 ++ List.replicate (N.length - ps.length) Sl.un)[i]? = some s ∧ (vs.map some ++ List.replicate (N.length - ps.length) none)[i]? = (vs.map some)[i]? := fun i s e => by
      refine ⟨?_, padσ_get hlen e⟩
      rw [List.getElem?_append_left (List.getElem?_eq_some_iff.mp e).1]
      exact e
    refine ⟨Ex, _, o, τe, Sp, hm, ?_⟩
    have ext : ∀ {τ' σ' H'}, PostS (τ0 ++ List.replicate (N.length - ps.length) Sl.un) (vs.map some ++ List.replicate (N.length - ps.length) none) H τ' σ' H' → Ext (Om τ0 (vs.map some)) H H' := fun Q => Q.ext.wider fun a z => om_pad hlen z
    cases o with
    | nx =>
      cases he
      intro σ' H' Qp Se
      exact kq _ H' ⟨ext Qp, (Se.io hlen Qp old).1, .non⟩
    | bk => cases he
    | ct => cases he
    | rt d fr' =>
      cases he
      intro σ' H' v Qp rv
      cases fr with
      | false =>
        obtain ⟨Se, rp⟩ := rv
        obtain ⟨S1, sub⟩ := Se.io hlen Qp old
        exact kq v H' ⟨ext Qp, S1, rp.mono (Ext.refl (O := Av Ex (keepT τ0 τe) (vs.map some))).wk fun a z => .inl (z.elim .inl fun z => .inr (sub a z))⟩
      | true =>
        obtain ⟨p, e, nE, q, Se, wn⟩ := rv
        obtain ⟨S1, sub⟩ := Se.io hlen Qp old
        refine kq v H' ⟨ext Qp, p, e, ?_, S1, wn.av fun a z => z.elim .inl fun z => .inr (sub a z)⟩
        rcases q with q | q
        · exfalso
          obtain ⟨i, s0, z1, z2, z3⟩ := os_pad hlen q
          cases s0 with
          | un => cases z2
          | sh _ => cases z2
          | lo _ _ => exact absurd (okp i _ z1) (by simp [okPar])
          | ad _ => cases z2
          | ow b d0 =>
            cases b with
            | false => exact absurd (okp i _ z1) (by simp [okPar])
            | true =>
              obtain ⟨y1, y2⟩ := old i _ z1
              obtain ⟨⟨d', u1⟩, u2⟩ := Qp.io i d0 y1
              obtain ⟨b, x1, x2, _⟩ := Se.ow i true d' u1
              rw [u2, y2, z3] at x1
              cases x1
              exact x2 (.inr rfl)
        · exact q
  · cases hg
/-- THE RULE for a def: its body as a term of rules -/
theorem fnG_of (F : Fun K name qual st f fd) (S : FnScope N ps (defScope st)) (hn : N.length = nN) (hp : ps.length = np)
    (hbody : ∀ (cdv : Value) (A : Around) (outer : List Env) (s : Shared) (H : Hp) (E : XK), (A.deeper (envOfC qual (defScope st) s.heap.objs.size f cdv)).guards = some [] → Room k (A.deeper (envOfC qual (defScope st) s.heap.objs.size f cdv)) →
      SB (cxOf CX0 P w K mg base N qual (defScope st) f cdv A outer s H E).nox (defBody st) mb) : FnG P w K mg base CX0 (k + 1) f fd ps (spG K np (gFn np nN mb)) := by
  subst hn hp
  refine fnG_walk F S (fun vs H Q E h => h.1) fun cdv A outer s H vs Q E hG hr hsp => ?_
  exact ⟨_, (hbody cdv A outer s H E hG hr).pss.nox, gFn_read hsp⟩
end
end Iv
set_option Elab.async false
set_option linter.all false
set_option maxRecDepth 100000
set_option maxHeartbeats 2000000
namespace Iv
open PySem L2 PyProof.Rows
variable [Cst]
/-! ### calls of the text's defs -/
/-- the callee's slots: the argument at io is the caller's own and may change -/
def argsT : Option Nat → List Rs → Tau → Option Tau
  | _, [], _ => some []
  | some 0, r :: rs, τ => match r with
    | .sl i => match τ[i]? with
      | some (.ow _ d) => (argsT none rs τ).map fun t => .ow true d :: t
      | _ => none
    | _ => none
  | some (k + 1), r :: rs, τ => (deref r τ).bind fun d => (argsT (some k) rs τ).map fun t => .sh d :: t
  | none, r :: rs, τ => (deref r τ).bind fun d => (argsT none rs τ).map fun t => .sh d :: t
def isSl (i : Nat) : Rs → Bool
  | .sl j => i == j
  | _ => false
/-- the slot that is handed on -/
def ioSl (io : Option Nat) (rs : List Rs) : Option Nat := io.bind fun k => match rs[k]? with
  | some (.sl i) => some i
  | _ => none
/-- an own thing is lent -/
def lent (io : Option Nat) (τ : Tau) : Rs → Bool
  | .sl j => !(io == some j) && ((τ[j]?).map Sl.isO == some true)
  | _ => false
def pureSl : Sl → Bool
  | .ow _ d => pureI d
  | _ => true
def backT (io : Option Nat) (pos : Option Nat) (τ1 τ : Tau) : Option Tau := match io, pos with
  | some i, some k => match τ[i]?, τ1[k]? with
    | some (.ow b _), some (.ow true d) => some (τ.set i (.ow b d))
    | _, _ => none
  | _, _ => some τ
def mCallF (np : Nat) (g : M (Dt × Bool)) (io : Option Nat) (ma : M (List Rs)) : M Rs := fun τ => (ma τ).bind fun p =>
  if p.1.length = np ∧ (∀ i, ioSl io p.1 = some i → p.1.countP (isSl i) = 1) then (argsT io p.1 p.2).bind fun τ0 => (g τ0).bind fun q =>
    if p.1.any (lent (ioSl io p.1) p.2) = false ∨ ((if q.1.2 then pureI q.1.1 else pureD q.1.1) = true ∧ q.2.all pureSl = true) then
      (backT (ioSl io p.1) io q.2 p.2).map fun τ' => ((if q.1.2 then .nw q.1.1 else .v q.1.1), τ')
    else none
  else none
theorem argsT_get : ∀ {io : Option Nat} {rs : List Rs} {τ τ0 : Tau}, argsT io rs τ = some τ0 → τ0.length = rs.length ∧ ∀ (k : Nat) r, rs[k]? = some r →
    (io = some k → ∃ i b d, r = .sl i ∧ τ[i]? = some (.ow b d) ∧ τ0[k]? = some (.ow true d)) ∧ (io ≠ some k → ∃ d, deref r τ = some d ∧ τ0[k]? = some (.sh d))
  | _, [], τ, τ0, h => by
    cases h
    exact ⟨rfl, fun k r e => by simp at e⟩
  | none, r :: rs, τ, τ0, h => by
    simp only [argsT, Option.bind_eq_some_iff, Option.map_eq_some_iff] at h
    obtain ⟨d, h1, t, h2, rfl⟩ := h
    obtain ⟨l, ih⟩ := argsT_get h2
    refine ⟨by rw [List.length_cons, List.length_cons, l], fun k r' e => ⟨fun z => (nomatch z), fun _ => ?_⟩⟩
    cases k with
    | zero => simp at e; subst e; exact ⟨d, h1, rfl⟩
    | succ k =>
      obtain ⟨d', y1, y2⟩ := (ih k r' (by simpa using e)).2 (by simp)
      exact ⟨d', y1, by simpa using y2⟩
  | some 0, r :: rs, τ, τ0, h => by
    unfold argsT at h
    split at h
    · rename_i i
      split at h
      · rename_i b d e0
        simp only [Option.map_eq_some_iff] at h
        obtain ⟨t, h2, rfl⟩ := h
        obtain ⟨l, ih⟩ := argsT_get h2
        refine ⟨by rw [List.length_cons, List.length_cons, l], fun k r' e => ⟨fun z => ?_, fun z => ?_⟩⟩
        · cases z
          simp at e
          subst e
          exact ⟨i, b, d, rfl, e0, rfl⟩
        · cases k with
          | zero => exact absurd rfl z
          | succ k =>
            obtain ⟨d', y1, y2⟩ := (ih k r' (by simpa using e)).2 (by simp)
            exact ⟨d', y1, by simpa using y2⟩
      · cases h
    · cases h
  | some (m + 1), r :: rs, τ, τ0, h => by
    simp only [argsT, Option.bind_eq_some_iff, Option.map_eq_some_iff] at h
    obtain ⟨d, h1, t, h2, rfl⟩ := h
    obtain ⟨l, ih⟩ := argsT_get h2
    refine ⟨by rw [List.length_cons, List.length_cons, l], fun k r' e => ⟨fun z => ?_, fun z => ?_⟩⟩
    · cases k with
      | zero => cases z
      | succ k =>
        obtain ⟨i, b, d', y0, y1, y2⟩ := (ih k r' (by simpa using e)).1 (by simpa using z)
        exact ⟨i, b, d', y0, y1, by simpa using y2⟩
    · cases k with
      | zero => simp at e; subst e; exact ⟨d, h1, rfl⟩
      | succ k =>
        obtain ⟨d', y1, y2⟩ := (ih k r' (by simpa using e)).2 fun q => z (by simpa using q)
        exact ⟨d', y1, by simpa using y2⟩
section
variable {K : PySem.W.Frag} {E : AS} {τ τ0 τ1 : Tau} {σ : L2.St} {H H' : Hp} {rs : List Rs} {vs : List V} {io : Option Nat}
theorem Waits.get (w : Waits K E τ σ H rs vs) : rs.length = vs.length ∧ ∀ (k : Nat) r, rs[k]? = some r → ∃ v, vs[k]? = some v ∧ Wait K E τ σ H r v := by
  induction w with
  | nil => exact ⟨rfl, fun k r e => by simp at e⟩
  | cons a w ih =>
    refine ⟨by rw [List.length_cons, List.length_cons, ih.1], fun k r e => ?_⟩
    cases k with
    | zero => simp at e; subst e; exact ⟨_, rfl, a⟩
    | succ k =>
      obtain ⟨v, h1, h2⟩ := ih.2 k r (by simpa using e)
      exact ⟨v, by simpa using h1, h2⟩
/-- what is handed on or lent -/
def Gone (τ : Tau) (σ : L2.St) (rs : List Rs) : AS := fun a => ∃ (i : Nat) (s : Sl), Rs.sl i ∈ rs ∧ τ[i]? = some s ∧ s.isO = true ∧ σ[i]? = some (some (.ref a))
theorem countP_one {α : Type} {p : α → Bool} : ∀ {l : List α}, l.countP p = 1 → ∀ {i j : Nat} {x y : α}, l[i]? = some x → l[j]? = some y → p x = true → p y = true → i = j
  | [], h, _, _, _, _, _, _, _, _ => by simp at h
  | a :: l, h, i, j, x, y, hi, hj, hx, hy => by
    have none : l.countP p = 0 → ∀ {k : Nat} {z : α}, l[k]? = some z → p z = true → False := fun h0 {k z} hk hz => by
      have := List.countP_eq_zero.mp h0 z (List.mem_of_getElem? hk)
      exact this hz
    rw [List.countP_cons] at h
    cases i with
    | zero =>
      cases j with
      | zero => rfl
      | succ j =>
        simp at hi hj
        subst hi
        rw [if_pos hx] at h
        exact (none (by omega) hj hy).elim
    | succ i =>
      simp at hi
      cases j with
      | zero =>
        simp at hj
        subst hj
        rw [if_pos hy] at h
        exact (none (by omega) hi hx).elim
      | succ j =>
        simp at hj
        by_cases ha : p a = true
        · rw [if_pos ha] at h
          exact (none (by omega) hi hx).elim
        · rw [if_neg ha] at h
          rw [countP_one (by omega) hi hj hx hy]
theorem args_rep (S : SRep K E τ σ H) (w : Waits K E τ σ H rs vs) (h : argsT io rs τ = some τ0) (one : ∀ i, ioSl io rs = some i → rs.countP (isSl i) = 1) :
    SRep K (fun a => Av E τ σ a ∧ ¬ Gone τ σ rs a) τ0 (vs.map some) H ∧ (∀ (k : Nat) (s : Sl), τ0[k]? = some s → okPar s = true) ∧
      (∀ a, Os τ0 (vs.map some) a → ∃ k i b d, io = some k ∧ rs[k]? = some (.sl i) ∧ ioSl io rs = some i ∧ τ[i]? = some (.ow b d) ∧ σ[i]? = some (some (.ref a)) ∧ vs[k]? = some (.ref a)) := by
  obtain ⟨l0, ga⟩ := argsT_get h
  obtain ⟨lv, gv⟩ := w.get
  have pos : ∀ {k : Nat} {s : Sl}, τ0[k]? = some s → ∃ r v, rs[k]? = some r ∧ vs[k]? = some v ∧ Wait K E τ σ H r v ∧ (vs.map some)[k]? = some (some v) := fun {k s} e => by
    have hk : k < rs.length := by rw [← l0]; exact (List.getElem?_eq_some_iff.mp e).1
    obtain ⟨v, h1, h2⟩ := gv k _ (List.getElem?_eq_getElem hk)
    exact ⟨_, v, List.getElem?_eq_getElem hk, h1, h2, by rw [List.getElem?_map, h1]; rfl⟩
  have own : ∀ {k : Nat} {s : Sl}, τ0[k]? = some s → s.isO = true → ∃ i b d v, io = some k ∧ rs[k]? = some (.sl i) ∧ ioSl io rs = some i ∧ τ[i]? = some (.ow b d) ∧ s = .ow true d ∧ σ[i]? = some (some v) ∧ vs[k]? = some v := fun {k s} e ho => by
    obtain ⟨r, v, e1, e2, e3, e4⟩ := pos e
    by_cases hk : io = some k
    · obtain ⟨i, b, d, z1, z2, z3⟩ := (ga k r e1).1 hk
      subst z1
      rw [e] at z3
      cases z3
      exact ⟨i, b, d, v, hk, e1, by unfold ioSl; rw [hk]; simp [e1], z2, rfl, e3.1, e2⟩
    · obtain ⟨d, z1, z2⟩ := (ga k r e1).2 hk
      rw [e] at z2
      cases z2
      cases ho
  have osS : ∀ a, Os τ0 (vs.map some) a → ∃ k i b d, io = some k ∧ rs[k]? = some (.sl i) ∧ ioSl io rs = some i ∧ τ[i]? = some (.ow b d) ∧ σ[i]? = some (some (.ref a)) ∧ vs[k]? = some (.ref a) := fun a ⟨k, s, z1, z2, z3⟩ => by
    obtain ⟨i, b, d, v, y0, y1, y2, y3, y4, y5, y6⟩ := own z1 z2
    rw [List.getElem?_map, y6] at z3
    cases z3
    exact ⟨k, i, b, d, y0, y1, y2, y3, y5, y6⟩
  have avS : ∀ a, Av (fun a => Av E τ σ a ∧ ¬ Gone τ σ rs a) τ0 (vs.map some) a → Av E τ σ a := fun a z => by
    rcases z with z | z
    · exact z.1
    · obtain ⟨k, i, b, d, y0, y1, y2, y3, y4, y5⟩ := osS a z
      exact .inr ⟨i, _, y3, rfl, y4⟩
  have wk : Wk (Av (fun a => Av E τ σ a ∧ ¬ Gone τ σ rs a) τ0 (vs.map some)) H H := (Ext.refl (O := Av (fun a => Av E τ σ a ∧ ¬ Gone τ σ rs a) τ0 (vs.map some))).wk
  have hO := fun a z => (Or.inl (avS a z) : Av E τ σ a ∨ H a = none)
  refine ⟨⟨by rw [l0, List.length_map, lv], fun a z => S.av_at z.1, S.tb, fun k d q => ?_, fun k io' d q => ?_, fun k io' d q => ?_, fun k b0 q => ?_, fun k j s t a q1 q2 q3 q4 q5 q6 => ?_⟩, fun k s e => ?_, osS⟩
  · obtain ⟨r, v, e1, e2, e3, e4⟩ := pos q
    refine ⟨v, e4, ?_⟩
    have hk : io ≠ some k := fun z => by
      obtain ⟨i, b, d', _, _, z3⟩ := (ga k r e1).1 z
      rw [q] at z3
      cases z3
    obtain ⟨d', z1, z2⟩ := (ga k r e1).2 hk
    rw [q] at z2
    cases z2
    cases r with
    | v d2 => cases z1; exact Rp.mono e3 wk hO
    | nw d2 => exact e3.elim
    | sl j =>
      obtain ⟨hv, _⟩ := e3
      replace z1 : (τ[j]?).bind Sl.data = some d := z1
      cases ej : τ[j]? with
      | none => rw [ej] at z1; cases z1
      | some s =>
        rw [ej] at z1
        have top : ∀ a, v = .ref a → s.isO = true → ¬ Av (fun a => Av E τ σ a ∧ ¬ Gone τ σ rs a) τ0 (vs.map some) a := fun a ea ho z => by
          subst ea
          rcases z with z | z
          · exact z.2 ⟨j, s, List.mem_of_getElem? e1, ej, ho, hv⟩
          · obtain ⟨k2, i, b, d3, y0, y1, y2, y3, y4, y5⟩ := osS a z
            have eij : i = j := S.inj i j _ s a y3 ej rfl ho y4 hv
            subst eij
            have ek := countP_one (one i y2) y1 e1 (by simp [isSl]) (by simp [isSl])
            exact hk (by rw [← ek]; exact y0)
        have rt : Rt K (Av E τ σ) H v d := by
          obtain ⟨v', x1, x2⟩ := S.read (i := j) (d := d) (by unfold slD; rw [ej]; exact z1)
          rw [hv] at x1
          cases x1
          exact x2
        by_cases ho : s.isO = true
        · cases rt with
          | rp rr => exact rr.mono wk hO
          | lst rd rl => exact .lst (top _ rfl ho) rd (rl.mono wk hO)
          | dK rd rl => exact .dK (top _ rfl ho) rd (rl.mono wk hO)
          | dT rd rl => exact .dT (top _ rfl ho) rd (rl.mono wk hO)
        · cases s with
          | un => cases z1
          | sh d2 =>
            cases z1
            obtain ⟨v', x1, x2⟩ := S.sh j d ej
            rw [hv] at x1
            cases x1
            exact x2.mono wk hO
          | ow _ _ => exact absurd rfl ho
          | lo _ _ => exact absurd rfl ho
          | ad _ => cases z1
  · obtain ⟨i, b, d', v, y0, y1, y2, y3, y4, y5, y6⟩ := own q rfl
    cases y4
    obtain ⟨a, x1, x2, x3⟩ := S.ow i b d y3
    rw [y5] at x1
    cases x1
    refine ⟨a, by rw [List.getElem?_map, y6]; rfl, fun z => z.2 ⟨i, _, List.mem_of_getElem? y1, y3, rfl, y5⟩, x3.mono wk hO fun _ z => z⟩
  · obtain ⟨i, b, d', v, y0, y1, y2, y3, y4, y5, y6⟩ := own q rfl
    cases y4
  · obtain ⟨r, v, e1, e2, e3, e4⟩ := pos q
    by_cases hk : io = some k
    · obtain ⟨i, b, d, _, _, z3⟩ := (ga k r e1).1 hk
      rw [q] at z3
      cases z3
    · obtain ⟨d', _, z2⟩ := (ga k r e1).2 hk
      rw [q] at z2
      cases z2
  · obtain ⟨i, b, d', v, y0, _⟩ := own q1 q3
    obtain ⟨i2, b2, d2, v2, z0, _⟩ := own q2 q4
    rw [y0] at z0
    exact Option.some.inj z0
  · obtain ⟨r, v, e1, e2, e3, e4⟩ := pos e
    by_cases hk : io = some k
    · obtain ⟨i, b, d, _, _, z3⟩ := (ga k r e1).1 hk
      rw [e] at z3
      cases z3
      rfl
    · obtain ⟨d, _, z2⟩ := (ga k r e1).2 hk
      rw [e] at z2
      cases z2
      rfl
/-- behind a call -/
theorem call_back {g : M (Dt × Bool)} {r : Dt} {fr : Bool} {τ' : Tau} {v : V} (S : SRep K E τ σ H) (w : Waits K E τ σ H rs vs) (h : argsT io rs τ = some τ0) (one : ∀ i, ioSl io rs = some i → rs.countP (isSl i) = 1)
    (hp : rs.any (lent (ioSl io rs) τ) = false ∨ ((if fr then pureI r else pureD r) = true ∧ τ1.all pureSl = true)) (hb : backT (ioSl io rs) io τ1 τ = some τ')
    (C : CallP K (fun a => Av E τ σ a ∧ ¬ Gone τ σ rs a) τ0 (vs.map some) H r fr τ1 v H') : Post K E τ σ H (if fr then .nw r else .v r) τ' v H' := by
  obtain ⟨S0, okp, osS⟩ := args_rep S w h one
  have omS : ∀ a, Om τ0 (vs.map some) a → Om τ σ a := fun a z => by
    obtain ⟨k, i, b, d, y0, y1, y2, y3, y4, y5⟩ := osS a (om_os z)
    exact ⟨i, b, d, y3, y4⟩
  have ext : Ext (Om τ σ) H H' := C.ext.wider omS
  -- the state of the callee's slots
  have S1 : SRep K (fun a => Av E τ σ a ∧ ¬ Gone τ σ rs a) τ1 (vs.map some) H' := by
    have := C.ret
    cases fr with
    | false => exact this.1
    | true =>
      obtain ⟨p, _, _, s, _⟩ := this
      exact s.fewer fun _ => .inl
  -- what the slots are behind it
  have shape : (τ' = τ ∧ ∀ a, Os τ0 (vs.map some) a → False) ∨ ∃ i k b d0 d, ioSl io rs = some i ∧ io = some k ∧ τ[i]? = some (.ow b d0) ∧ τ1[k]? = some (.ow true d) ∧ τ' = τ.set i (.ow b d) := by
    cases ei : ioSl io rs with
    | none =>
      rw [ei] at hb
      cases hb
      refine .inl ⟨rfl, fun a z => ?_⟩
      obtain ⟨k, i, b, d, y0, y1, y2, _⟩ := osS a z
      rw [ei] at y2
      cases y2
    | some i =>
      cases ek : io with
      | none => rw [ek] at ei; cases ei
      | some k =>
        rw [ei, ek] at hb
        unfold backT at hb
        simp only at hb
        split at hb
        · rename_i b d0 d z1 z2
          cases hb
          exact .inr ⟨i, k, b, d0, d, rfl, rfl, z1, z2, rfl⟩
        · cases hb
  have dn : Dn τ τ' := by
    rcases shape with ⟨rfl, _⟩ | ⟨i, k, b, d0, d, _, _, z1, _, rfl⟩
    · exact .refl
    · refine ⟨List.length_set .., fun j s q => ?_⟩
      by_cases hj : i = j
      · subst hj
        rw [z1] at q
        cases q
        exact ⟨_, List.getElem?_set_self (List.getElem?_eq_some_iff.mp z1).1, .inr (.inl ⟨_, _, _, rfl, rfl⟩)⟩
      · exact ⟨s, by rw [List.getElem?_set_ne hj]; exact q, .inl rfl⟩
  have osE : ∀ a, Os τ' σ a → Os τ σ a := fun a z => dn.os z
  have osE' : ∀ a, Os τ σ a → Os τ' σ a := fun a ⟨j, s, z1, z2, z3⟩ => by
    obtain ⟨s', y1, y2⟩ := dn.le j s z1
    rcases shape with ⟨rfl, _⟩ | ⟨i, k, b, d0, d, _, _, x1, _, rfl⟩
    · exact ⟨j, s, z1, z2, z3⟩
    · by_cases hj : i = j
      · subst hj
        exact ⟨i, _, List.getElem?_set_self (List.getElem?_eq_some_iff.mp x1).1, rfl, z3⟩
      · exact ⟨j, s, by rw [List.getElem?_set_ne hj]; exact z1, z2, z3⟩
  -- what is lent is not met again, or only things without lists come back
  have clean : rs.any (lent (ioSl io rs) τ) = false → ∀ a, Gone τ σ rs a → Os τ0 (vs.map some) a := fun hl a ⟨i, s, z1, z2, z3, z4⟩ => by
    obtain ⟨k, hk⟩ := List.mem_iff_getElem?.mp z1
    have nl : lent (ioSl io rs) τ (.sl i) = false := by
      cases q : lent (ioSl io rs) τ (.sl i) with
      | false => rfl
      | true => rw [List.any_eq_false] at hl; exact absurd q (hl _ z1)
    have ei : ioSl io rs = some i := by
      simp only [lent, z2, Option.map_some, z3] at nl
      simpa using nl
    unfold ioSl at ei
    cases ek : io with
    | none => rw [ek] at ei; cases ei
    | some k2 =>
      rw [ek] at ei
      have ei2 : (match rs[k2]? with | some (.sl i) => some i | _ => none) = some i := ei
      split at ei2
      · rename_i j e2
        cases ei2
        obtain ⟨i2, b, d, y0, y1, y2⟩ := ((argsT_get h).2 k2 _ e2).1 ek
        cases y0
        obtain ⟨v2, x1, x2⟩ := (w.get).2 k2 _ e2
        have ev : v2 = .ref a := by
          have := x2.1
          rw [z4] at this
          cases this
          rfl
        exact ⟨k2, _, y2, rfl, by rw [List.getElem?_map, x1, ev]; rfl⟩
      · cases ei2
  -- avoiding in the callee is avoiding here
  have av : ∀ {EE : AS}, rs.any (lent (ioSl io rs) τ) = false → ∀ a, (Av E τ' σ a ∨ EE a) → Av (fun a => (Av E τ σ a ∧ ¬ Gone τ σ rs a) ∨ EE a) τ1 (vs.map some) a ∨ Os τ0 (vs.map some) a := fun {EE} hl a z => by
    rcases z with z | z
    · have z' : Av E τ σ a := z.elim .inl fun z => .inr (osE a z)
      by_cases hg : Gone τ σ rs a
      · exact .inr (clean hl a hg)
      · exact .inl (.inl (.inl ⟨z', hg⟩))
    · exact .inl (.inl (.inr z))
  have os1 : ∀ a, Os τ0 (vs.map some) a → Os τ1 (vs.map some) a := fun a z => by
    obtain ⟨k, i, b, d, y0, y1, y2, y3, y4, y5⟩ := osS a z
    rcases shape with ⟨_, no⟩ | ⟨i', k', b', d0, d', x1, x2, x3, x4, _⟩
    · exact (no a z).elim
    · rw [y0] at x2
      cases x2
      exact ⟨k, _, x4, rfl, by rw [List.getElem?_map, y5]; rfl⟩
  have H1at : ∀ a, H a ≠ none → H' a ≠ none := C.ext.dom
  have pure1 : ∀ {k : Nat} {d : Dt}, τ1.all pureSl = true → τ1[k]? = some (.ow true d) → pureI d = true := fun {k d} hh e => by
    have := List.all_eq_true.mp hh _ (List.mem_of_getElem? e)
    exact this
  have slots : ∀ {E2 : AS}, (∀ a, E a → E2 a) → (∀ a, E2 a → E a ∨ H a = none) → (∀ a, E2 a → H' a ≠ none) → (∀ a, E2 a → Os τ σ a → False) →
      (rs.any (lent (ioSl io rs) τ) = false → ∀ (k : Nat) (d : Dt), τ1[k]? = some (.ow true d) → ∀ (a : Addr), vs[k]? = some (.ref a) → Own K (Av E2 τ' σ) H' a d) → SRep K E2 τ' σ H' := by
    intro E2 hE hE2 hex hdis hio
    have keep : ∀ a, Av E2 τ' σ a → Av E τ σ a ∨ H a = none := fun a z => by
      rcases z with z | z
      · exact (hE2 a z).imp .inl id
      · exact .inl (.inr (osE a z))
    have wk : Wk (fun a => Av E τ σ a ∨ Av E2 τ' σ a) H H' := (C.ext.wider fun a z => .inl (.inr (om_os (omS a z)))).wk
    have two : ∀ {v d}, Rp K (Av E τ σ) H v d → Rp K (Av E2 τ' σ) H' v d := fun {v d} q => (q.mono wk fun a z => z.elim .inl (keep a)).mono (Ext.refl (O := Av E2 τ' σ)).wk fun a z => .inl (.inr z)
    have twoO : ∀ {a d}, Own K (Av E τ σ) H a d → ¬ Om τ0 (vs.map some) a → Own K (Av E2 τ' σ) H' a d := fun {a d} q n => (q.mono wk (fun a z => z.elim .inl (keep a)) (q.stay C.ext n)).av fun a z => .inr z
    refine ⟨by rw [dn.len]; exact S.len, hex, C.ext.tabs S.tb, fun j d q => ?_, fun j io' d q => ?_, fun j io' d q => ?_, fun j b0 q => ?_, fun j l s t a q1 q2 q3 q4 q5 q6 => ?_⟩
    · obtain ⟨s, y1, y2⟩ := dn.back q
      have ys : s = .sh d := by
        rcases shape with ⟨rfl, _⟩ | ⟨i, k, b, d0, d', _, _, x1, _, rfl⟩
        · rw [q] at y1; exact (Option.some.inj y1).symm
        · by_cases hj : i = j
          · subst hj
            rw [List.getElem?_set_self (List.getElem?_eq_some_iff.mp x1).1] at q
            cases q
          · rw [List.getElem?_set_ne hj, y1] at q
            exact Option.some.inj q
      subst ys
      obtain ⟨v, z1, z2⟩ := S.sh j d y1
      exact ⟨v, z1, two z2⟩
    · rcases shape with ⟨e, no⟩ | ⟨i, k, b, d0, d', x0, xk, x1, x2, e⟩
      · rw [e] at q
        obtain ⟨a, z1, z2, z3⟩ := S.ow j io' d q
        exact ⟨a, z1, fun z => hdis a z ⟨j, _, q, rfl, z1⟩, twoO z3 fun z => no a (om_os z)⟩
      · by_cases hj : i = j
        · subst hj
          rw [e, List.getElem?_set_self (List.getElem?_eq_some_iff.mp x1).1] at q
          cases q
          obtain ⟨a, z1, z2, z3⟩ := S.ow i io' d0 x1
          have rk : rs[k]? = some (.sl i) := by
            unfold ioSl at x0
            rw [xk] at x0
            have x0' : (match rs[k]? with | some (.sl i) => some i | _ => none) = some i := x0
            split at x0'
            · rename_i j e2; cases x0'; exact e2
            · cases x0'
          obtain ⟨v2, u1, u2⟩ := (w.get).2 k _ rk
          have ev : v2 = .ref a := by
            have := u2.1
            rw [z1] at this
            cases this
            rfl
          subst ev
          refine ⟨a, z1, fun z => hdis a z ⟨i, _, x1, rfl, z1⟩, ?_⟩
          obtain ⟨a2, t1, t2, t3⟩ := S1.ow k true d x2
          rw [List.getElem?_map, u1] at t1
          cases t1
          rcases hp with hl | ⟨_, hpure⟩
          · exact hio hl k d x2 a u1
          · exact t3.pure (pure1 hpure x2)
        · rw [e, List.getElem?_set_ne hj] at q
          obtain ⟨a, z1, z2, z3⟩ := S.ow j io' d q
          refine ⟨a, z1, fun z => hdis a z ⟨j, _, q, rfl, z1⟩, twoO z3 fun z => ?_⟩
          obtain ⟨k2, i2, b2, d2, y0, y1, y2, y3, y4, y5⟩ := osS a (om_os z)
          rw [x0] at y2
          cases y2
          exact hj (S.inj i j _ _ a y3 q rfl rfl y4 z1)
    · have q' : τ[j]? = some (.lo io' d) := by
        rcases shape with ⟨e, _⟩ | ⟨i, k, b, d0, d', _, _, x1, _, e⟩
        · rw [e] at q; exact q
        · by_cases hj : i = j
          · subst hj
            rw [e, List.getElem?_set_self (List.getElem?_eq_some_iff.mp x1).1] at q
            cases q
          · rw [e, List.getElem?_set_ne hj] at q; exact q
      obtain ⟨a, z1, z2, z3, z4, z5⟩ := S.lo j io' d q'
      have nM : ¬ Om τ0 (vs.map some) a := fun z => by
        obtain ⟨k2, i2, b2, d2, y0, y1, y2, y3, y4, y5⟩ := osS a (om_os z)
        have := S.inj i2 j _ _ a y3 q' rfl rfl y4 z1
        subst this
        rw [q'] at y3
        cases y3
      refine ⟨a, z1, fun z => hdis a z ⟨j, _, q', rfl, z1⟩, H1at a z3, C.ext.mu nM z3 z4, ?_⟩
      · refine (z5.mono wk (fun a z => z.elim .inl (keep a)) fun b q => .inl fun u r zn => ?_).mono (Ext.refl (O := Av E2 τ' σ)).wk (fun a z => .inl (.inr z)) fun b _ => .inl fun u r _ => r
        cases q
        exact C.ext.rd nM r (rdN zn)
    · obtain ⟨s, y1, y2⟩ := dn.back q
      rcases y2 with e | ⟨_, _, _, _, e⟩ | ⟨_, _, _, e⟩
      · rw [← e] at y1
        exact S.ad j b0 y1
      · cases e
      · cases e
    · obtain ⟨s', y1, y2⟩ := dn.back q1
      obtain ⟨t', y3, y4⟩ := dn.back q2
      have own : ∀ {s s' : Sl}, SlLe s s' → s'.isO = true → s.isO = true := fun {s s'} l o => by
        rcases l with rfl | ⟨_, _, _, rfl, rfl⟩ | ⟨_, _, rfl, rfl⟩
        · exact o
        · rfl
        · rfl
      exact S.inj j l s' t' a y1 y3 (own y2 q3) (own y4 q4) q5 q6
  cases fr with
  | false =>
    obtain ⟨_, rr⟩ := C.ret
    have S2 : SRep K E τ' σ H' := slots (fun _ z => z) (fun _ z => .inl z) (fun a z => H1at a (S.ex a z)) (fun a z q => (S.os_at q).2 z) fun hl k d e a ea => by
      obtain ⟨a2, t1, t2, t3⟩ := S1.ow k true d e
      rw [List.getElem?_map, ea] at t1
      cases t1
      refine t3.av fun b z => ?_
      rcases av (EE := fun _ => False) hl b (.inl z) with z | z
      · exact z.elim (fun z => z.elim .inl False.elim) .inr
      · exact .inr (os1 b z)
    refine ⟨ext, dn, S2, ?_⟩
    rcases hp with hl | ⟨hpure, _⟩
    · refine rr.mono (Ext.refl (O := Av E τ' σ)).wk fun b z => .inl ?_
      rcases av (EE := fun _ => False) hl b (.inl z) with z | z
      · exact z.elim (fun z => z.elim .inl False.elim) .inr
      · exact .inr (os1 b z)
    · exact pure_any.1 rr hpure _
  | true =>
    obtain ⟨p, ev, np, Sp, wn⟩ := C.ret
    have nE : ¬ E p := fun z => S.ex p z np
    have S2 : SRep K (fun a => E a ∨ a = p) τ' σ H' := slots (fun _ z => .inl z) (fun a z => z.imp id fun z => by rw [z]; exact np) (fun a z => z.elim (fun z => H1at a (S.ex a z)) fun z => Sp.ex a (.inr z)) (fun a z q => z.elim (fun z => (S.os_at q).2 z) fun z => (S.os_at q).1 (by rw [z]; exact np)) fun hl k d e a ea => by
      obtain ⟨a2, t1, t2, t3⟩ := Sp.ow k true d e
      rw [List.getElem?_map, ea] at t1
      cases t1
      refine t3.av fun b z => ?_
      have z' : Av E τ' σ b ∨ b = p := z.elim (fun z => z.elim (fun z => .inl (.inl z)) .inr) fun z => .inl (.inr z)
      rcases av (EE := fun b => b = p) hl b z' with z | z
      · exact z
      · exact .inr (os1 b z)
    refine ⟨ext, dn, p, ev, np, nE, S2, ?_⟩
    rcases hp with hl | ⟨hpure, _⟩
    · refine wn.av fun b z => ?_
      have z' : Av E τ' σ b ∨ b = p := z.elim (fun z => z.elim (fun z => .inl (.inl z)) .inr) fun z => .inl (.inr z)
      rcases av (EE := fun b => b = p) hl b z' with z | z
      · exact z
      · exact .inr (os1 b z)
    · exact wn.pure hpure
end
/-- a def's call, where nothing is being shown -/
theorem run_fnG {X : Cx} {CX : CXT} {k : Nat} {f : Addr} {fd : FuncData} {ps : List Str} {sp : Sp} {dvs : List V} {ds : List Value} {E : XK} {pins : List (Addr × Obj)} {σ : L2.St} {H : Hp} {s : Shared} {Q : VK} {us : List Value} {vs : List V}
    (F : FnG X.prog X.w X.K X.mg X.base CX k f fd ps sp) (hG : X.A.guards = some []) (hr : Room k X.A) (hb : Binds X.K fd ps ds) (hd : Vals dvs ds) (hx : Passes CX X E) (I : Inv X pins σ H s) (r : Vals vs us) (h : sp (vs ++ dvs) H Q E) :
    wpAny (model X.prog X.w) X.A (call (.ref f) us) (EP X pins σ Q) X.xe s := by
  have rr : Vals (vs ++ dvs) (us ++ ds) := r.append hd
  have hlen : (us ++ ds).length = ps.length := by rw [← rr.length]; exact F.len _ _ _ _ h
  refine wpAny_call (codeAny_mono (F.run X.A X.stack s H ⟨us, []⟩ (us ++ ds) (vs ++ dvs) Q E hG hr I.env0 (hb s us I.kIn hlen) rr h) fun res s' hq => ?_)
  cases res with
  | ok fl =>
    cases fl with
    | ret u => exact I.after hq
    | next => exact hq.elim
    | brk => exact hq.elim
    | cont => exact hq.elim
  | error e => exact hx pins σ H s e s' I hq
section
variable {X : Cx} {k : Nat} {f : Addr} {fd : FuncData} {ps : List Str} {np : Nat} {g : M (Dt × Bool)} {x : Str} {p pos : Pos} {e : Expr} {es : List Expr} {ma : M (List Rs)} {io : Option Nat}
theorem se_call (F : FnG X.prog X.w X.K X.mg X.base CX0 k f fd ps (spG X.K np g)) (hG : X.A.guards = some []) (hr : Room k X.A) (hg : Gl X x) (hm : X.mg x = some (.ref f)) (hk : PySem.W.keepIn X.K (.ref f) = true) (hb : Binds X.K fd ps []) (ha : SA X (e :: es) ma) (io : Option Nat)
    (hdb : (x == ("__debug__" : Str)) = false := by decide) (he : starEach (e :: es) X.env = (false, eval e X.env) :: starEach es X.env := by rfl) (hpl : (backTo pos (starEach es X.env)).any (·.1) = false := by rfl) :
    SE X (.Call (.Name x p) (e :: es) [] pos) (mCallF np g io ma) := by
  refine ⟨⟨fun pins s σ H Q I h => wpAny_Call_Name_kw (ld_glob I hg hm ?_ hdb)⟩⟩
  obtain ⟨E, τ, r, τ', S, hmm, kq⟩ := h
  simp only [mCallF, Option.bind_eq_some_iff] at hmm
  obtain ⟨⟨rs, τ1⟩, h1, h2⟩ := hmm
  split at h2
  · rename_i hone
    obtain ⟨hnp, one⟩ := hone
    simp only [Option.bind_eq_some_iff] at h2
    obtain ⟨τ0, h3, ⟨⟨rd, fr⟩, τ2⟩, h4, h5⟩ := h2
    dsimp only at h5
    by_cases hpure : rs.any (lent (ioSl io rs) τ1) = false ∨ ((if fr = true then pureI rd else pureD rd) = true ∧ τ2.all pureSl = true)
    · rw [if_pos hpure] at h5
      simp only [Option.map_eq_some_iff] at h5
      obtain ⟨τ3, h6, h7⟩ := h5
      obtain ⟨rfl, rfl⟩ := Prod.mk.inj h7
      refine PySem.W.callWith_K (h₀ := X.base) I.ok.mod.kin hk (thn (ha.pa.run pos pins s σ H (fun vs H1 => spG X.K np g vs H1 Q E0) I ⟨E, τ, rs, τ1, S, h1, fun vs H1 P => ?_⟩) fun us s1 ⟨vs, H1, I1, rv, q⟩ => ⟨I1.kIn, ?_⟩) he hpl
      · obtain ⟨S0, okp, osS⟩ := args_rep P.rep P.res h3 one
        have hl := (P.res.get).1
        have l0 := (argsT_get h3).1
        refine ⟨?_, _, τ0, rd, fr, τ2, S0, okp, h4, fun v H2 C => kq v H2 ?_⟩
        · rw [← hl]; exact hnp
        · have P2 := call_back (g := g) P.rep P.res h3 one hpure h6 C
          exact PostB.post ⟨P.ext, P.dn, P.rep⟩ P2
      · exact run_fnG (dvs := []) F hG hr hb .nil pass0 I1 rv (by rw [List.append_nil]; exact q)
    · rw [if_neg hpure] at h5
      cases h5
  · cases h2
end
end Iv
set_option Elab.async false
set_option linter.all false
set_option maxRecDepth 100000
set_option maxHeartbeats 2000000
namespace Iv
open PySem L2 PyProof.Rows
/-- the claim's call of the law, nothing being shown -/
theorem law_callG {P : Program} {w : World} {K : PySem.W.Frag} {mg mb : Str → Option Value} {k : Nat} {fa a : Addr} {x : Str} {sp : Sp} {s : Shared} {vs : List Value} {ns : List Int} (kin : K.In s.heap) (gl : s.heap.Ns mainGlobals mg) (bl : s.heap.Ns builtinsNs mb)
    (bb : ∀ x : Str, x ≠ "__name__" → mb x = bootBuiltins x) (nl : s.heap.NoLimit) (ng : s.gens = #[]) (hs : s.heap.get? a = some { cls := .type "list", data := .seq vs.toArray }) (ia : IntsAre vs ns) (hz : ns.length ≤ sizeLine) (room : Room k callerA)
    (F : ∀ base : Heap, K.In base → base.Ns mainGlobals mg → ∃ fd : FuncData, FnG P w K mg base CX0 k fa fd [x] sp ∧ Binds K fd [x] []) (want : ∀ H : Hp, L2.Only H → Ls K H a (ns.map V.int) → sp [.ref a] H (fun v _ => v = .bl true) E0) :
    codeAny (model P w) callerA (.call (.ref fa) ⟨[.ref a], []⟩) (fun r s' => r = .ok (.ret (.bool true)) ∧ OldK s.heap s'.heap ∧ s'.os = s.os ∧ AllBare s'.gens) s := by
  have rel := vals_ints ia
  have nlen := ia.length
  have go : ∀ H : Hp, L2.Only H → Ls K H a (ns.map V.int) → HOk P w H s.heap → (∀ c, H c ≠ none → c = a) → (H a ≠ none → K.lookup a = none) →
      codeAny (model P w) callerA (.call (.ref fa) ⟨[.ref a], []⟩) (fun r s' => r = .ok (.ret (.bool true)) ∧ OldK s.heap s'.heap ∧ s'.os = s.os ∧ AllBare s'.gens) s := by
    intro H only sq hok one noK
    have under : ∀ {c : Addr} {o : Obj}, s.heap.get? c = some o → H c = none → (hidT s.heap H).get? c = some o := fun e n => hidT_get e n
    have dictFree : ∀ {c : Addr} {o : Obj} {es : Array DictEntry} {ep : Nat}, s.heap.get? c = some o → o.data = .dict es ep → H c = none := by
      intro c o es ep e d
      by_cases q : H c = none
      · exact q
      · obtain rfl := one c q
        rw [hs] at e
        cases e
        exact nomatch (show Data.seq vs.toArray _ = Data.dict es ep from d)
    have nsUnder : ∀ {c : Addr} {m : Str → Option Value}, s.heap.Ns c m → (hidT s.heap H).Ns c m := fun {c m} ⟨o, es, ep, e, d, r⟩ => ⟨o, es, ep, under e (dictFree e d), d, r⟩
    have kUnder : K.In (hidT s.heap H) := fun c o e => under (kin c o e) (by
      by_cases q : H c = none
      · exact q
      · obtain rfl := one c q
        rw [noK q] at e
        cases e)
    obtain ⟨mc, n1, n2⟩ := nl
    have env : Env0 P w K mg (hidT s.heap H) callerA [] s H :=
      ⟨rfl, ⟨kUnder, nsUnder gl, ⟨mb, nsUnder bl, bb⟩, ⟨mc, nsUnder n1, n2⟩⟩, fun c o e => of_hidT e, Nat.le_of_eq (hidT_size _ _), trivial, (fun c hc => by cases (show c ∈ ([] : List Addr) from hc)), hok, .of_eq ng⟩
    obtain ⟨fd, F1, hb⟩ := F _ kUnder (nsUnder gl)
    refine codeAny_mono (F1.run callerA [] s H ⟨[.ref a], []⟩ [.ref a] [.ref a] _ _ rfl room env (hb s [.ref a] kin rfl) (.cons rfl .nil) (want H only sq)) ?_
    rintro (e | fl) s' hr
    · exact hr.elim
    · cases fl with
      | ret u =>
        obtain ⟨v, H', os, bare, un, hok', rv, rfl⟩ := hr
        obtain rfl : u = Value.bool true := rv
        refine ⟨rfl, OldK.of_keep fun c o e => ?_, os, bare⟩
        rcases only c with z | ⟨ob, xs, z⟩
        · exact un.keep c o e z (fun q => by cases (show c ∈ ([] : List Addr) from q)) (by simp)
        · obtain ⟨e1, _⟩ := hok c _ z
          obtain ⟨e2, _⟩ := hok' c _ (un.frzs c ob _ z)
          rw [e] at e1
          cases e1
          exact e2
      | next => exact hr.elim
      | brk => exact hr.elim
      | cont => exact hr.elim
  cases known : K.lookup a with
  | none =>
    have at' : ∀ c : Addr, (if c = a then some (HO.frz { cls := .type "list", data := .seq vs.toArray } (.lst (ns.map V.int))) else none) = none ∨ c = a := fun c => by
      by_cases q : c = a
      · exact .inr q
      · exact .inl (if_neg q)
    refine go (fun c => if c = a then some (.frz { cls := .type "list", data := .seq vs.toArray } (.lst (ns.map V.int))) else none) (fun c => (at' c).imp id fun q => ⟨_, _, if_pos q⟩) (.inl (.inr ⟨_, if_pos rfl⟩)) (fun c u z => ?_) (fun c z => (at' c).resolve_left z) fun _ => known
    rcases at' c with q | q
    · exact nomatch (q.symm.trans z)
    · subst q
      have z' : some (HO.frz { cls := .type "list", data := .seq vs.toArray } (.lst (ns.map V.int))) = some u := (if_pos rfl).symm.trans z
      cases z'
      exact ⟨hs, by rw [List.length_map]; exact hz, vs, _, rel, hs⟩
  | some o =>
    have e := kin a o known
    rw [hs] at e
    cases e
    exact go (fun _ => none) (fun _ => .inl rfl) (.inr ⟨vs.toArray, _, known, by rw [List.size_toArray, nlen]; exact hz, by simpa using rel⟩) (fun c u z => nomatch (show (none : Option HO) = some u from z)) (fun c z => absurd rfl z) fun z => absurd rfl z
/-- the goal that k_head leaves -/
theorem walk_G {l : PySem.W.OpenLaw} {n k : Nat} {q : Program} {loose : List Str} {XP : (Str → Option Value) → Heap → Prop} {YP : World → Heap → Prop} {d : PySem.DefRec} {K : PySem.Params → PySem.W.Frag} {sp : World → Sp} {x : Str}
    (hn : l.most = some n) (hn2 : n ≤ sizeLine) (hdf : d.params.defaults = []) (room : Room k callerA) (hY : ∀ (w : World) (h : Heap), YP w h → (K w.params).In h)
    (F : ∀ (w : World) (mg : Str → Option Value) (fa : Addr) (h : Heap), (K w.params).In h → h.Ns mainGlobals mg → mg d.name = some (.ref fa) →
      ∀ base : Heap, (K w.params).In base → base.Ns mainGlobals mg → ∃ fd : FuncData, FnG l.prog w (K w.params) mg base CX0 k fa fd [x] (sp w) ∧ Binds (K w.params) fd [x] [])
    (want : ∀ (w : World) (H : Hp) (a : Addr) (ns : List Int), ns.length ≤ n → L2.Only H → Ls (K w.params) H a (ns.map V.int) → sp w [.ref a] H (fun v _ => v = .bl true) E0) :
    PySem.W.WalkO q loose XP YP l.row.toRowW d [] (fun f vs => PySem.call f vs) := by
  refine Att.attach_call hn hdf fun w s₀ s₁ mg mb fa o pm cd doc a vs ns G Y ho hd hcd hmg hobj hints hlen hg => ?_
  have KX := hY w _ Y
  exact law_callG KX G.T.g G.T.b G.T.builtins G.T.nolimit hg hobj hints (Nat.le_trans hlen hn2) room (F w mg fa _ KX G.T.g hmg) fun H hO hS => want w H a ns hlen hO hS
end Iv
set_option Elab.async false
set_option linter.all false
set_option maxRecDepth 100000
set_option maxHeartbeats 2000000
namespace Iv
open PySem L2 PyProof.Rows
variable [Cst]
/-! ### operators on values -/
def okMul (i j : Int) : Bool := decide ((-(2 ^ 64) < i ∧ i < 2 ^ 64) ∨ (-(2 ^ 64) < j ∧ j < 2 ^ 64)) || decide (i.natAbs.log2 + j.natAbs.log2 < 1000000)
def okDiv (j : Int) : Bool := decide (0 < j) && decide (j.natAbs.log2 < 9000)
def dAdd : Dt → Dt → Option Rs
  | .int i, .int j => some (.v (.int (i + j)))
  | .str x, .str y => if x.length + y.length ≤ sizeLine then some (.v (.str (x ++ y))) else none
  | .tuple xs, .tuple ys => if xs.length + ys.length ≤ sizeLine then some (.v (.tuple (xs ++ ys))) else none
  | .list xs, .list ys => if xs.length + ys.length ≤ sizeLine then some (.nw (.list (xs ++ ys))) else none
  | _, _ => none
def dSub : Dt → Dt → Option Rs
  | .int i, .int j => some (.v (.int (i - j)))
  | _, _ => none
def repD (xs : List Dt) (k : Int) : List Dt := (List.replicate k.toNat xs).flatten
def dMul : Dt → Dt → Option Rs
  | .int i, .int j => if okMul i j then some (.v (.int (i * j))) else none
  | .list xs, .int k => if -(2 ^ 63) ≤ k ∧ k < 2 ^ 63 ∧ xs.length * k.toNat ≤ sizeLine then some (.nw (.list (repD xs k))) else none
  | .tuple xs, .int k => if (xs = [] → False) ∧ 2 ≤ k ∧ k ≤ 1000 ∧ xs.length ≤ 1000 then some (.v (.tuple (repD xs k))) else if k = 1 then some (.v (.tuple xs)) else if -(2 ^ 63) ≤ k ∧ k < 2 ^ 63 ∧ (k ≤ 0 ∨ xs = []) then some (.v (.tuple [])) else none
  | _, _ => none
def dMod : Dt → Dt → Option Rs
  | .int i, .int j => if 0 < j then some (.v (.int (i % j))) else none
  | _, _ => none
def dDiv : Dt → Dt → Option Rs
  | .int i, .int j => if okDiv j then some (.v (.int (i / j))) else none
  | _, _ => none
def dPow : Dt → Dt → Option Rs
  | .int i, .int j => if 0 ≤ j ∧ j ≤ 1000000 ∧ i.natAbs < 2 ^ 64 then some (.v (.int (i ^ j.toNat))) else none
  | _, _ => none
def dLt : Dt → Dt → Option Rs
  | .int i, .int j => some (.v (.bool (decide (i < j))))
  | _, _ => none
def dLe : Dt → Dt → Option Rs
  | .int i, .int j => some (.v (.bool (decide (i ≤ j))))
  | _, _ => none
def dGt : Dt → Dt → Option Rs
  | .int i, .int j => some (.v (.bool (decide (j < i))))
  | _, _ => none
def dGe : Dt → Dt → Option Rs
  | .int i, .int j => some (.v (.bool (decide (j ≤ i))))
  | _, _ => none
def dEq : Dt → Dt → Option Rs
  | .str x, .str y => some (.v (.bool (decide (x = y))))
  | d, e => if SeqAt.shaped d = true ∧ SeqAt.shaped e = true then some (.v (.bool (PyData.eqv d e))) else none
def dNe : Dt → Dt → Option Rs
  | .str x, .str y => some (.v (.bool (!decide (x = y))))
  | d, e => if SeqAt.shaped d = true ∧ SeqAt.shaped e = true then some (.v (.bool (!PyData.eqv d e))) else none
theorem dec_strV {x y : Str} : decide (V.str x = V.str y) = decide (x = y) := by simp
def dIx : Dt → Dt → Option Rs
  | .list xs, .int i => (atI xs i).map .v
  | .tuple xs, .int i => (atI xs i).map .v
  | .str z, .int i => if z.length ≤ sizeLine then (atI z.cps.toList i).map fun c => .v (.str ⟨#[c]⟩) else none
  | _, _ => none
/-- a tuple once is the tuple -/
theorem tuple_mulOne (l : Addr) (items : Array Value) (n : Nat) (dd : Option Addr) (sl : Array (Option Value)) (x : Int) (u : Tok) (c0 : (decide (x < -(2 ^ 63)) || decide (x ≥ 2 ^ 63)) = false) (c1 : (items.isEmpty || x == 1) = true) :
    Meets (Builtin.«tuple.__mul__» ⟨[.ref l, .int x u], []⟩) (fun _ R st => st.heap.get? l = some { cls := .type "tuple", dict := dd, data := .seq items n, slots := sl } ∧ R (.ok (.ret (Value.ref l))) st) :=
  .of_wp fun prog w A R st hyp => by
    obtain ⟨hp, g, d, tk, os⟩ := st
    obtain ⟨hl, hyp⟩ := hyp
    have f1 := AutoSeq1.idx_int
    wp_walk using AutoSeq1.wpAny_loadPart' hl
    repeat (first
      | (refine wpAny_ite_false (decide_eq_false (by rw [c0]; exact Bool.false_ne_true)) ?_; wp_walk using AutoSeq1.wpAny_loadPart' hl)
      | (refine wpAny_ite_true (decide_eq_true c1) ?_; wp_walk using AutoSeq1.wpAny_loadPart' hl))
    exact ⟨_, rfl, hyp⟩
theorem tuple_mulZero (l : Addr) (items : Array Value) (n : Nat) (dd : Option Addr) (sl : Array (Option Value)) (x : Int) (u : Tok) (c0 : (decide (x < -(2 ^ 63)) || decide (x ≥ 2 ^ 63)) = false) (c1 : (items.isEmpty || x == 1) = false) (c2 : (decide (x ≤ 0) || items.isEmpty) = true) :
    Meets (Builtin.«tuple.__mul__» ⟨[.ref l, .int x u], []⟩) (fun _ R s => s.heap.get? l = some { cls := .type "tuple", dict := dd, data := .seq items n, slots := sl } ∧
      R (.ok (.ret (Value.ref s.heap.objs.size))) { s with heap := s.heap.push { cls := Value.type "tuple", data := Data.seq #[] }, toks := s.toks }) :=
  .of_wp fun prog w A R s h => by
    obtain ⟨hp, g, d, tk, os⟩ := s
    obtain ⟨hl, h⟩ := h
    have f1 := AutoSeq1.idx_int
    wp_walk using AutoSeq1.wpAny_loadPart' hl
    repeat (first
      | (refine wpAny_ite_false (decide_eq_false (by rw [c0]; exact Bool.false_ne_true)) ?_; wp_walk using AutoSeq1.wpAny_loadPart' hl)
      | (refine wpAny_ite_false (decide_eq_false (by rw [c1]; exact Bool.false_ne_true)) ?_; wp_walk using AutoSeq1.wpAny_loadPart' hl)
      | (refine wpAny_ite_true (decide_eq_true c2) ?_; wp_walk using AutoSeq1.wpAny_loadPart' hl))
    exact ⟨_, rfl, h⟩
section
variable {X : Cx}
theorem atI_rp {K : PySem.W.Frag} {O : AS} {H : Hp} {xs : List V} {ds : List Dt} (r : RpL K O H xs ds) {i : Int} {d : Dt} (h : atI ds i = some d) : ∃ v, atI xs i = some v ∧ Rp K O H v d := by
  unfold atI at h ⊢
  rw [r.length]
  cases e : ixN ds.length i with
  | none => rw [e] at h; cases h
  | some j =>
    rw [e] at h
    exact r.get h
theorem rpL_dp {K : PySem.W.Frag} {O : AS} {H : Hp} : (∀ {v d}, Rp K O H v d → d.canLay0 = true → Dp K H v d) ∧ ∀ {vs ds}, RpL K O H vs ds → PyData.canLayAll0 ds = true → DpAll K H vs ds := by
  have R := @Rp.rec _ K O H (fun v d _ => d.canLay0 = true → Dp K H v d) (fun vs ds _ => PyData.canLayAll0 ds = true → DpAll K H vs ds) (fun _ _ _ => True) (fun _ _ _ => True)
    (fun _ => .non) (fun b _ => .bl b) (fun i _ => .int i) (fun x _ => .str x) (fun n r _ q h => .lst (.inl r) (q (by simpa [PyData.canLay0] using h))) (fun r _ q h => .lst r.sq (q (by simpa [PyData.canLay0] using h))) (fun r _ q h => .tup (.inl (.inl r)) (q (by simpa [PyData.canLay0] using h))) (fun c r _ q h => .tup (kT r) (q (by simpa [PyData.canLay0] using h)))
    (fun n r _ q h => by simp [PyData.canLay0] at h) (fun n r _ q h => by simp [PyData.canLay0] at h) (fun _ => .nil) (fun _ _ a b h => by
      simp only [PyData.canLayAll0, Bool.and_eq_true] at h
      exact .cons (a h.1) (b h.2)) trivial (fun _ _ _ _ => trivial) trivial (fun _ _ _ _ => trivial)
  have RL := @RpL.rec _ K O H (fun v d _ => d.canLay0 = true → Dp K H v d) (fun vs ds _ => PyData.canLayAll0 ds = true → DpAll K H vs ds) (fun _ _ _ => True) (fun _ _ _ => True)
    (fun _ => .non) (fun b _ => .bl b) (fun i _ => .int i) (fun x _ => .str x) (fun n r _ q h => .lst (.inl r) (q (by simpa [PyData.canLay0] using h))) (fun r _ q h => .lst r.sq (q (by simpa [PyData.canLay0] using h))) (fun r _ q h => .tup (.inl (.inl r)) (q (by simpa [PyData.canLay0] using h))) (fun c r _ q h => .tup (kT r) (q (by simpa [PyData.canLay0] using h)))
    (fun n r _ q h => by simp [PyData.canLay0] at h) (fun n r _ q h => by simp [PyData.canLay0] at h) (fun _ => .nil) (fun _ _ a b h => by
      simp only [PyData.canLayAll0, Bool.and_eq_true] at h
      exact .cons (a h.1) (b h.2)) trivial (fun _ _ _ _ => trivial) trivial (fun _ _ _ _ => trivial)
  exact ⟨fun {v d} h => R h, fun {v d} h => RL h⟩
theorem rt_dp {K : PySem.W.Frag} {O : AS} {H : Hp} {v : V} {d : Dt} (h : Rt K O H v d) (c : d.canLay0 = true) : Dp K H v d := by
  cases h with
  | rp h => exact rpL_dp.1 h c
  | lst r q => exact .lst (.inl r) (rpL_dp.2 q (by simpa [PyData.canLay0] using c))
  | dK r q => simp [PyData.canLay0] at c
  | dT r q => simp [PyData.canLay0] at c
theorem rpl_new {K : PySem.W.Frag} {O : AS} {H H' : Hp} {xs : List V} {ds : List Dt} (r : RpL K O H xs ds) (e : Ext nO H H') {p : Addr} (hp : H p = none) : RpL K (fun a => O a ∨ a = p) H' xs ds :=
  r.mono (wkAll e) fun a z => z.imp id fun z => by rw [z]; exact hp
theorem res_list {K : PySem.W.Frag} {O : AS} {H : Hp} {xs : List V} {ds : List Dt} {p : Addr} (r : RpL K O H xs ds) (hp : H p = none) : Res K O H (.nw (.list ds)) (.ref p) (upd H p (.lst xs)) :=
  ⟨p, rfl, hp, .lst upd_same (rpl_new r (.new hp) hp)⟩
theorem res_tup {K : PySem.W.Frag} {O : AS} {H : Hp} {xs : List V} {ds : List Dt} {p : Addr} (r : RpL K O H xs ds) (hp : H p = none) : Res K O H (.v (.tuple ds)) (.ref p) (upd H p (.tup xs)) :=
  .tup upd_same (r.mono (wkAll (.new hp)) fun _ z => .inl z)
theorem ov_add : OpR X (binaryOp .Add) (rBin X.K dAdd) := by
  intro pins s σ H x y v u Q I rx ry h
  obtain ⟨O, d, e, z, hO, hd, he, hz, q⟩ := h
  unfold dAdd at hz
  split at hz
  · cases hz
    rw [rt_int hd] at rx
    rw [rt_int he] at ry
    exact op_add pins s σ H _ _ v u Q I rx ry ⟨_, _, rfl, rfl, q _ H .refl (.int _)⟩
  · split at hz
    · rename_i hl
      cases hz
      rw [rt_str hd] at rx
      rw [rt_str he] at ry
      exact op_add_str pins s σ H _ _ v u Q I rx ry ⟨_, _, rfl, rfl, hl, q _ H .refl (.str _)⟩
    · cases hz
  · split at hz
    · rename_i xs ys hl
      cases hz
      obtain ⟨a, as, rfl, ha, ra⟩ := rt_tuple hd
      obtain ⟨b, bs, rfl, hb, rb⟩ := rt_tuple he
      refine op_catA pins s σ H _ _ v u Q I rx ry ⟨a, b, as, bs, rfl, rfl, ha, hb, by rw [ra.length, rb.length]; exact hl, fun e0 => ?_, fun _ e0 => ?_, fun _ _ p hp => q _ _ (.new hp) (res_tup (ra.append rb) hp)⟩
      · subst e0
        cases ra
        refine q _ H .refl ?_
        cases he with
        | rp he => exact he
      · subst e0
        cases rb
        refine q _ H .refl ?_
        cases hd with
        | rp hd => rw [List.append_nil]; exact hd
    · cases hz
  · split at hz
    · rename_i xs ys hl
      cases hz
      obtain ⟨a, as, rfl, ha, ra⟩ := rt_ls hd
      obtain ⟨b, bs, rfl, hb, rb⟩ := rt_ls he
      cases rx
      cases ry
      obtain ⟨its, n, r, e1, z1⟩ := ha.obj I
      obtain ⟨its2, n2, r2, e2, z2⟩ := hb.obj I
      have l1 := r.length
      have l2 := r2.length
      have l3 := ra.length
      have l4 := rb.length
      refine PySem.P.add_list e1 e2 ?_ (by rw [List.size_toArray, List.size_toArray]; omega)
      have ea : its.toArray ++ its2.toArray = (its ++ its2).toArray := by simp
      rw [ea]
      exact ⟨.ref _, _, I.lnew (t' := s.toks) (r.append r2) (by rw [List.length_append]; omega), rfl, q _ _ (.new I.fresh) (res_list (ra.append rb) I.fresh)⟩
    · cases hz
  · cases hz
theorem ov_sub : OpR X (binaryOp .Sub) (rBin X.K dSub) := by
  intro pins s σ H x y v u Q I rx ry h
  obtain ⟨O, d, e, z, hO, hd, he, hz, q⟩ := h
  unfold dSub at hz
  split at hz
  · cases hz
    rw [rt_int hd] at rx
    rw [rt_int he] at ry
    exact op_sub pins s σ H _ _ v u Q I rx ry ⟨_, _, rfl, rfl, q _ H .refl (.int _)⟩
  · cases hz
theorem ov_mod : OpR X (binaryOp .Mod) (rBin X.K dMod) := by
  intro pins s σ H x y v u Q I rx ry h
  obtain ⟨O, d, e, z, hO, hd, he, hz, q⟩ := h
  unfold dMod at hz
  split at hz
  · split at hz
    · rename_i hj
      cases hz
      rw [rt_int hd] at rx
      rw [rt_int he] at ry
      exact op_mod pins s σ H _ _ v u Q I rx ry ⟨_, _, rfl, rfl, hj, q _ H .refl (.int _)⟩
    · cases hz
  · cases hz
theorem ov_div : OpR X (binaryOp .FloorDiv) (rBin X.K dDiv) := by
  intro pins s σ H x y v u Q I rx ry h
  obtain ⟨O, d, e, z, hO, hd, he, hz, q⟩ := h
  unfold dDiv at hz
  split at hz
  · split at hz
    · rename_i hj
      cases hz
      rw [rt_int hd] at rx
      rw [rt_int he] at ry
      obtain ⟨j1, j2⟩ := Bool.and_eq_true_iff.mp hj
      exact op_fdivW pins s σ H _ _ v u Q I rx ry ⟨_, _, rfl, rfl, ⟨of_decide_eq_true j1, of_decide_eq_true j2⟩, q _ H .refl (.int _)⟩
    · cases hz
  · cases hz
theorem ov_pow : OpR X (binaryOp .Pow) (rBin X.K dPow) := by
  intro pins s σ H x y v u Q I rx ry h
  obtain ⟨O, d, e, z, hO, hd, he, hz, q⟩ := h
  unfold dPow at hz
  split at hz
  · split at hz
    · rename_i hj
      cases hz
      rw [rt_int hd] at rx
      rw [rt_int he] at ry
      exact op_pow pins s σ H _ _ v u Q I rx ry ⟨_, _, rfl, rfl, hj, q _ H .refl (.int _)⟩
    · cases hz
  · cases hz
theorem repD_rp {K : PySem.W.Frag} {O : AS} {H : Hp} {xs : List V} {ds : List Dt} (r : RpL K O H xs ds) (n : Nat) : RpL K O H (List.replicate n xs).flatten (List.replicate n ds).flatten := by
  induction n with
  | zero => exact .nil
  | succ n ih =>
    rw [List.replicate_succ, List.replicate_succ, List.flatten_cons, List.flatten_cons]
    exact r.append ih
theorem ov_lt : OpR X (compareOp .Lt) (rBin X.K dLt) := by
  intro pins s σ H x y v u Q I rx ry h
  obtain ⟨O, d, e, z, hO, hd, he, hz, q⟩ := h
  unfold dLt at hz
  split at hz
  · cases hz
    rw [rt_int hd] at rx
    rw [rt_int he] at ry
    exact op_lt pins s σ H _ _ v u Q I rx ry ⟨_, _, rfl, rfl, q _ H .refl (.bl _)⟩
  · cases hz
theorem ov_le : OpR X (compareOp .LtE) (rBin X.K dLe) := by
  intro pins s σ H x y v u Q I rx ry h
  obtain ⟨O, d, e, z, hO, hd, he, hz, q⟩ := h
  unfold dLe at hz
  split at hz
  · cases hz
    rw [rt_int hd] at rx
    rw [rt_int he] at ry
    exact op_le pins s σ H _ _ v u Q I rx ry ⟨_, _, rfl, rfl, q _ H .refl (.bl _)⟩
  · cases hz
theorem ov_gt : OpR X (compareOp .Gt) (rBin X.K dGt) := by
  intro pins s σ H x y v u Q I rx ry h
  obtain ⟨O, d, e, z, hO, hd, he, hz, q⟩ := h
  unfold dGt at hz
  split at hz
  · cases hz
    rw [rt_int hd] at rx
    rw [rt_int he] at ry
    exact op_gt pins s σ H _ _ v u Q I rx ry ⟨_, _, rfl, rfl, q _ H .refl (.bl _)⟩
  · cases hz
theorem ov_ge : OpR X (compareOp .GtE) (rBin X.K dGe) := by
  intro pins s σ H x y v u Q I rx ry h
  obtain ⟨O, d, e, z, hO, hd, he, hz, q⟩ := h
  unfold dGe at hz
  split at hz
  · cases hz
    rw [rt_int hd] at rx
    rw [rt_int he] at ry
    exact op_ge pins s σ H _ _ v u Q I rx ry ⟨_, _, rfl, rfl, q _ H .refl (.bl _)⟩
  · cases hz
theorem ov_eq (hu : X.A.units + 64 < cLine) : OpR X (compareOp .Eq) (rBin X.K dEq) := by
  intro pins s σ H x y v u Q I rx ry h
  obtain ⟨O, d, e, z, hO, hd, he, hz, q⟩ := h
  unfold dEq at hz
  split at hz
  · cases hz
    rw [rt_str hd] at rx
    rw [rt_str he] at ry
    refine op_eq pins s σ H _ _ v u Q I rx ry ⟨rfl, ?_⟩
    rw [dec_strV]
    exact q _ H .refl (.bl _)
  · split at hz
    · rename_i hs
      cases hz
      exact op_eqD hu pins s σ H x y v u Q I rx ry ⟨_, _, rt_dp hd (SeqAt.canLay_of_shaped hs.1), rt_dp he (SeqAt.canLay_of_shaped hs.2), hs.1, hs.2, q _ H .refl (.bl _)⟩
    · cases hz
theorem ov_ne (hu : X.A.units + 64 < cLine) : OpR X (compareOp .NotEq) (rBin X.K dNe) := by
  intro pins s σ H x y v u Q I rx ry h
  obtain ⟨O, d, e, z, hO, hd, he, hz, q⟩ := h
  unfold dNe at hz
  split at hz
  · cases hz
    rw [rt_str hd] at rx
    rw [rt_str he] at ry
    refine op_ne pins s σ H _ _ v u Q I rx ry ⟨rfl, ?_⟩
    rw [dec_strV]
    exact q _ H .refl (.bl _)
  · split at hz
    · rename_i hs
      cases hz
      exact op_neD hu pins s σ H x y v u Q I rx ry ⟨_, _, rt_dp hd (SeqAt.canLay_of_shaped hs.1), rt_dp he (SeqAt.canLay_of_shaped hs.2), hs.1, hs.2, q _ H .refl (.bl _)⟩
    · cases hz
theorem ov_ix : IxR X (rBin X.K dIx) := by
  intro value slice pins s σ H x y v u Q I rx ry h hs
  obtain ⟨O, d, e, z, hO, hd, he, hz, q⟩ := h
  unfold dIx at hz
  split at hz
  · simp only [Option.map_eq_some_iff] at hz
    obtain ⟨w, h1, rfl⟩ := hz
    obtain ⟨a, xs, rfl, ha, ra⟩ := rt_list hd
    obtain ⟨wv, h2, h3⟩ := atI_rp ra h1
    rw [rt_int he] at ry
    exact ix_list value slice pins s σ H _ _ v u Q I rx ry ⟨a, xs, _, wv, rfl, rfl, ha, h2, q wv H .refl h3⟩ hs
  · simp only [Option.map_eq_some_iff] at hz
    obtain ⟨w, h1, rfl⟩ := hz
    obtain ⟨a, xs, rfl, ha, ra⟩ := rt_tuple hd
    obtain ⟨wv, h2, h3⟩ := atI_rp ra h1
    rw [rt_int he] at ry
    exact ix_tup value slice pins s σ H _ _ v u Q I rx ry ⟨a, xs, _, wv, rfl, rfl, ha, h2, q wv H .refl h3⟩ hs
  · split at hz
    · rename_i hl
      simp only [Option.map_eq_some_iff] at hz
      obtain ⟨c, h1, rfl⟩ := hz
      rw [rt_str hd] at rx
      rw [rt_int he] at ry
      exact ix_str value slice pins s σ H _ _ v u Q I rx ry ⟨_, _, c, rfl, rfl, hl, h1, q _ H .refl (.str _)⟩ hs
    · cases hz
  · cases hz
theorem ov_mul : OpR X (binaryOp .Mult) (rBin X.K dMul) := by
  intro pins s σ H x y v u Q I rx ry h
  obtain ⟨O, d, e, z, hO, hd, he, hz, q⟩ := h
  unfold dMul at hz
  split at hz
  · split at hz
    · rename_i hj
      cases hz
      rw [rt_int hd] at rx
      rw [rt_int he] at ry
      rcases Bool.or_eq_true_iff.mp hj with hj | hj
      · exact op_mul pins s σ H _ _ v u Q I rx ry ⟨_, _, rfl, rfl, (by have h1 := of_decide_eq_true hj; exact h1), q _ H .refl (.int _)⟩
      · exact op_mulW pins s σ H _ _ v u Q I rx ry ⟨_, _, rfl, rfl, (by have h1 := of_decide_eq_true hj; exact h1), q _ H .refl (.int _)⟩
    · cases hz
  · split at hz
    · rename_i xs k hk
      cases hz
      obtain ⟨a, as, rfl, ha, ra⟩ := rt_ls hd
      rw [rt_int he] at ry
      obtain ⟨k1, k2, k3⟩ := hk
      cases rx
      obtain ⟨t, rfl⟩ := ry
      obtain ⟨its, n, r, e1, z1⟩ := ha.obj I
      have l1 : its.toArray.size = xs.length := by rw [List.size_toArray, ← r.length, ra.length]
      have cap : ¬ its.toArray.size * k.toNat > (2 ^ 63 - 1) / 8 := by
        have b : (sizeLine : Nat) ≤ (2 ^ 63 - 1) / 8 := by decide
        rw [l1]
        omega
      have fit : ¬ (!Builtin.List.listFitsIndex k) = true := by rw [fitsIndex_both k1 k2]; exact Bool.false_ne_true
      have long : ¬ Builtin.List.listTooLong (its.toArray.size * k.toNat) = true := by rw [notLongL (by rw [l1]; exact k3)]; exact Bool.false_ne_true
      have new : List.foldl (fun x1 x2 => x1 ++ x2) #[] (List.replicate (if its.toArray.isEmpty = true then 0 else k.toNat) its.toArray) = (List.replicate k.toNat its).flatten.toArray := by
        rw [size_rep]
        cases its with
        | nil => simp
        | cons a r' => rw [if_neg (by simp)]
      refine wpAny_binaryOp_repeat_ref (T := "list") (U := "int") (by decide) ⟨_, e1, rfl⟩ (fun s' => typeIs_int s' k t) noFill_list_mul F.fills_int_mul F.slot_int_rmul repeat_list F.slot_int_index.lookup
        (call_meets F.slot_int_rmul (typeIs_int s k t) F.entry_int_rmul (F.args_int_rmul_2 _ _) (int___rmul___int_list k t a its.toArray n)
          ⟨e1, rfl, ⟨_, e1, rfl⟩, call_meets F.slot_list_mul ⟨_, e1, rfl⟩ F.entry_list_mul (F.args_list_mul_2 _ _) (AutoListH.list___mul___list_int_3 a its.toArray n k t fit cap long) ⟨e1, ?_⟩⟩)
      rw [new]
      exact ⟨.ref _, _, I.lnew (t' := s.toks) (r.rep k.toNat) (by rw [PyProof.Rows.lm_len_rep_flat, Nat.mul_comm, ra.length]; exact k3), rfl, q _ _ (.new I.fresh) (res_list (repD_rp ra _) I.fresh)⟩
    · cases hz
  · split at hz
    · rename_i xs k hk
      cases hz
      obtain ⟨a, as, rfl, ha, ra⟩ := rt_tuple hd
      rw [rt_int he] at ry
      refine op_repT pins s σ H _ _ v u Q I rx ry ⟨a, k, as, rfl, rfl, ha, fun e0 => ?_, hk.2.1, hk.2.2.1, by rw [ra.length]; exact hk.2.2.2, fun p hp => q _ _ (.new hp) (res_tup (repD_rp ra _) hp)⟩
      subst e0
      cases ra
      exact hk.1 rfl
    · split at hz
      · rename_i xs k _ hk
        cases hz
        subst hk
        obtain ⟨a, as, rfl, ha, ra⟩ := rt_tuple hd
        rw [rt_int he] at ry
        cases rx
        obtain ⟨t, rfl⟩ := ry
        obtain ⟨its, r, ⟨⟨cls, dd, data, sl⟩, ho, hc, n, hdt⟩, hs⟩ := I.tuple ha
        simp only at hc hdt
        subst hc hdt
        refine wpAny_binaryOp_repeat_ref (T := "tuple") (U := "int") (by decide) ⟨_, ho, rfl⟩ (fun s' => typeIs_int s' 1 t) noFill_tuple_mul F.fills_int_mul F.slot_int_rmul repeat_tuple F.slot_int_index.lookup
          (call_meets F.slot_int_rmul (typeIs_int s 1 t) F.entry_int_rmul (F.args_int_rmul_2 _ _) (int_rmul_tuple 1 t a its.toArray n dd sl)
            ⟨ho, rfl, ⟨_, ho, rfl⟩, call_meets F.slot_tuple_mul ⟨_, ho, rfl⟩ F.entry_tuple_mul (F.args_tuple_mul_2 _ _) (tuple_mulOne a its.toArray n dd sl 1 t (by decide) (by simp)) ⟨ho, ?_⟩⟩)
        refine ⟨.ref a, H, I, rfl, q _ H .refl ?_⟩
        cases hd with
        | rp hd => exact hd
      · split at hz
        · rename_i xs k _ hk1 hk
          cases hz
          obtain ⟨a, as, rfl, ha, ra⟩ := rt_tuple hd
          rw [rt_int he] at ry
          cases rx
          obtain ⟨t, rfl⟩ := ry
          obtain ⟨its, r, ⟨⟨cls, dd, data, sl⟩, ho, hc, n, hdt⟩, hs⟩ := I.tuple ha
          simp only at hc hdt
          subst hc hdt
          have c0 : (decide (k < -(2 ^ 63)) || decide (k ≥ 2 ^ 63)) = false := by
            rw [decide_eq_false (by omega), decide_eq_false (by omega)] <;> rfl
          by_cases c1 : (its.toArray.isEmpty || k == 1) = true
          · have e0 : xs = [] := by
              rw [Bool.or_eq_true] at c1
              rcases c1 with c1 | c1
              · have l1 : its.length = xs.length := by rw [← r.length, ra.length]
                have l2 : its = [] := by
                  cases its with
                  | nil => rfl
                  | cons x y => cases c1
                rw [l2] at l1
                exact List.eq_nil_of_length_eq_zero l1.symm
              · exact absurd (by simpa using c1) hk1
            subst e0
            refine wpAny_binaryOp_repeat_ref (T := "tuple") (U := "int") (by decide) ⟨_, ho, rfl⟩ (fun s' => typeIs_int s' k t) noFill_tuple_mul F.fills_int_mul F.slot_int_rmul repeat_tuple F.slot_int_index.lookup
              (call_meets F.slot_int_rmul (typeIs_int s k t) F.entry_int_rmul (F.args_int_rmul_2 _ _) (int_rmul_tuple k t a its.toArray n dd sl)
                ⟨ho, rfl, ⟨_, ho, rfl⟩, call_meets F.slot_tuple_mul ⟨_, ho, rfl⟩ F.entry_tuple_mul (F.args_tuple_mul_2 _ _) (tuple_mulOne a its.toArray n dd sl k t c0 c1) ⟨ho, ?_⟩⟩)
            refine ⟨.ref a, H, I, rfl, q _ H .refl ?_⟩
            cases hd with
            | rp hd => exact hd
          · have c1 : (its.toArray.isEmpty || k == 1) = false := by simpa using c1
            have c2 : (decide (k ≤ 0) || its.toArray.isEmpty) = true := by
              rw [Bool.or_eq_false_iff] at c1
              rcases hk.2.2 with z | z
              · rw [decide_eq_true z]; rfl
              · subst z
                cases ra
                have : its = [] := by cases r; rfl
                rw [this] at c1
                cases c1.1
            refine wpAny_binaryOp_repeat_ref (T := "tuple") (U := "int") (by decide) ⟨_, ho, rfl⟩ (fun s' => typeIs_int s' k t) noFill_tuple_mul F.fills_int_mul F.slot_int_rmul repeat_tuple F.slot_int_index.lookup
              (call_meets F.slot_int_rmul (typeIs_int s k t) F.entry_int_rmul (F.args_int_rmul_2 _ _) (int_rmul_tuple k t a its.toArray n dd sl)
                ⟨ho, rfl, ⟨_, ho, rfl⟩, call_meets F.slot_tuple_mul ⟨_, ho, rfl⟩ F.entry_tuple_mul (F.args_tuple_mul_2 _ _) (tuple_mulZero a its.toArray n dd sl k t c0 c1 c2) ⟨ho, ?_⟩⟩)
            exact ⟨.ref _, _, I.laid (t' := s.toks) (o := .tup []) (fun _ _ q => Heap.get?_push_of_some _ q) (Nat.le_refl _) ⟨Nat.zero_le _, [], .nil, _, Heap.get?_push_size _ rfl, rfl, _, rfl⟩, rfl, q _ _ (.new I.fresh) (res_tup .nil I.fresh)⟩
        · cases hz
  · cases hz
end
end Iv
set_option Elab.async false
set_option linter.all false
set_option maxRecDepth 100000
set_option maxHeartbeats 2000000
namespace Iv
open PySem L2 PyProof.Rows
variable [Cst]
/-! ### slices -/
def cutD (xs : List Dt) (lo hi : Option Int) : List Dt := (xs.drop (HT.sIx xs.length 0 lo)).take (HT.sIx xs.length xs.length hi - HT.sIx xs.length 0 lo)
abbrev MO := M (Option Rs)
def mO0 : MO := fun τ => some (none, τ)
def mO (m : M Rs) : MO := fun τ => (m τ).map fun p => (some p.1, p.2)
def partD : Option Rs → Tau → Option (Option Int)
  | none, _ => some none
  | some r, τ => (deref r τ).bind fun d => match d with
    | .int i => some (some i)
    | _ => none
def dCut : Dt → Option Int → Option Int → Option Rs
  | .list xs, lo, hi => some (.nw (.list (cutD xs lo hi)))
  | .tuple xs, lo, hi => some (.v (.tuple (cutD xs lo hi)))
  | .str z, lo, hi => if z.length ≤ sizeLine then some (.v (.str (cutS z lo hi))) else none
  | _, _, _ => none
def mCut (m : M Rs) (ml mh : MO) : M Rs := fun τ => (m τ).bind fun p => (ml p.2).bind fun q => (partD q.1 q.2).bind fun lo => (mh q.2).bind fun r => (partD r.1 r.2).bind fun hi =>
  (deref p.1 r.2).bind fun d => (dCut d lo hi).map fun z => (z, r.2)
def oOf (K : PySem.W.Frag) (m : MO) : TO := fun σ H Q => ∃ E τ o τ' lo, SRep K E τ σ H ∧ m τ = some (o, τ') ∧ partD o τ' = some lo ∧ ∀ H', PostB K E τ σ H τ' H' → Q lo H'
structure SO (X : Cx) (e : Option Expr) (m : MO) : Prop where
  po : PO X e (oOf X.K m)
section
variable {X : Cx} {e : Expr} {me : M Rs} {lo hi : Option Expr} {ml mh : MO}
theorem so_none : SO X none mO0 := by
  refine ⟨⟨fun pins s σ H Q I h => po_none.run pins s σ H Q I ?_⟩⟩
  obtain ⟨E, τ, o, τ', lo, S, hm, hp, k⟩ := h
  cases hm
  cases hp
  exact k H (.refl S)
theorem so_some (h : SE X e me) : SO X (some e) (mO me) := by
  refine ⟨⟨fun pins s σ H Q I q => (po_some h.pe).run pins s σ H Q I ?_⟩⟩
  obtain ⟨E, τ, o, τ', lo, S, hm, hp, k⟩ := q
  simp only [mO, Option.map_eq_some_iff] at hm
  obtain ⟨⟨r, τ1⟩, h1, h2⟩ := hm
  cases h2
  simp only [partD, Option.bind_eq_some_iff] at hp
  obtain ⟨d, h3, h4⟩ := hp
  refine ⟨E, τ, r, _, S, h1, fun v H1 P => ?_⟩
  split at h4
  · cases h4
    exact ⟨_, rt_int (P.read h3), k H1 P.b⟩
  · cases h4
theorem cutD_rp {K : PySem.W.Frag} {O : AS} {H : Hp} {xs : List V} {ds : List Dt} (r : RpL K O H xs ds) (lo hi : Option Int) : RpL K O H (cutV xs lo hi) (cutD ds lo hi) := by
  unfold cutV cutD
  rw [r.length]
  exact (r.drop _).take _
theorem cutD_all {ds : List Dt} {l u : Option Int} (hw : HT.sIx ds.length 0 l = 0 ∧ HT.sIx ds.length ds.length u = ds.length) : cutD ds l u = ds := by
  unfold cutD
  rw [hw.1, hw.2, List.drop_zero, Nat.sub_zero, List.take_length]
theorem Post.pendB {K : PySem.W.Frag} {E : AS} {τ τ1 τ2 : Tau} {σ : L2.St} {H H1 H2 : Hp} {r : Rs} {v : V} (P : Post K E τ σ H r τ1 v H1) (B : PostB K E τ1 σ H1 τ2 H2) : Wait K E τ2 σ H2 r.keep v :=
  P.wait.on (H2 := H2) (rs := []) (vs := []) ⟨B.ext, B.dn, B.rep, .nil⟩
theorem deref_keep {r : Rs} {τ : Tau} : deref r.keep τ = deref r τ := by cases r <;> rfl
theorem se_slice {pos p2 : Pos} (he : SE X e me) (hl : SO X lo ml) (hh : SO X hi mh) : SE X (.Subscript e (.Slice lo hi none p2) pos) (mCut me ml mh) := by
  refine ⟨peW (pe_slice (sl_tupA.or (sl_list.or sl_str)) he.pe hl.po hh.po) fun σ H Q h => ?_⟩
  obtain ⟨E, τ, r, τ', S, hm, k⟩ := h
  simp only [mCut, Option.bind_eq_some_iff, Option.map_eq_some_iff] at hm
  obtain ⟨⟨ra, τ1⟩, h1, ⟨ol, τ2⟩, h2, l, h3, ⟨oh, τ3⟩, h4, u, h5, d, h6, z, h7, h8⟩ := hm
  cases h8
  refine ⟨E, τ, ra, τ1, S, h1, fun x H1 P1 => ⟨E, τ1, ol, τ2, l, P1.srep, h2, h3, fun H2 B2 => ⟨E, τ2, oh, _, u, B2.rep, h4, h5, fun H3 B3 => ?_⟩⟩⟩
  have B := B2.comp B3
  have w := (P1.pendB B).read B.rep (by rw [deref_keep]; exact h6)
  have fin : ∀ v H4, Ext nO H3 H4 → Res X.K (Av E τ3 σ) H3 r v H4 → Q v H4 := fun v H4 e4 q => k v H4 ((P1.b.comp B).post (post_step B.rep e4 q))
  unfold dCut at h7
  split at h7
  · cases h7
    obtain ⟨a, xs, rfl, hs, hr⟩ := rt_list w
    exact .inr (.inl ⟨a, xs, rfl, hs, fun p hp => fin _ _ (.new hp) (res_list (cutD_rp hr _ _) hp)⟩)
  · cases h7
    obtain ⟨a, xs, rfl, hs, hr⟩ := rt_tuple w
    refine .inl ⟨a, xs, rfl, hs, fun hw => fin _ _ .refl ?_, fun _ p hp => fin _ _ (.new hp) (res_tup (cutD_rp hr _ _) hp)⟩
    rw [cutD_all (by rw [← hr.length]; exact hw)]
    cases w with
    | rp w => exact w
  · split at h7
    · rename_i hz
      cases h7
      rw [rt_str w]
      exact .inr (.inr ⟨_, rfl, hz, fin _ _ .refl (.str _)⟩)
    · cases h7
  · cases h7
end
/-! ### calls of builtins on values -/
def intsOf : List Dt → Option (List Int)
  | [] => some []
  | .int i :: ds => (intsOf ds).map (i :: ·)
  | _ => none
def blsOf : List Dt → Option (List Bool)
  | [] => some []
  | .bool i :: ds => (blsOf ds).map (i :: ·)
  | _ => none
theorem intsOf_rp {K : PySem.W.Frag} {O : AS} {H : Hp} : ∀ {ds : List Dt} {xs : List V} {ns : List Int}, RpL K O H xs ds → intsOf ds = some ns → xs = ns.map V.int
  | [], _, _, r, h => by cases r; cases h; rfl
  | .int i :: ds, _, _, r, h => by
    cases r with
    | cons r1 r2 =>
      simp only [intsOf, Option.map_eq_some_iff] at h
      obtain ⟨ms, h1, rfl⟩ := h
      cases r1
      rw [List.map_cons, ← intsOf_rp r2 h1]
  | .none :: _, _, _, _, h | .bool _ :: _, _, _, _, h | .str _ :: _, _, _, _, h | .list _ :: _, _, _, _, h | .tuple _ :: _, _, _, _, h | .dict _ :: _, _, _, _, h => by cases h
theorem blsOf_rp {K : PySem.W.Frag} {O : AS} {H : Hp} : ∀ {ds : List Dt} {xs : List V} {ns : List Bool}, RpL K O H xs ds → blsOf ds = some ns → xs = ns.map V.bl
  | [], _, _, r, h => by cases r; cases h; rfl
  | .bool i :: ds, _, _, r, h => by
    cases r with
    | cons r1 r2 =>
      simp only [blsOf, Option.map_eq_some_iff] at h
      obtain ⟨ms, h1, rfl⟩ := h
      cases r1
      rw [List.map_cons, ← blsOf_rp r2 h1]
  | .none :: _, _, _, _, h | .int _ :: _, _, _, _, h | .str _ :: _, _, _, _, h | .list _ :: _, _, _, _, h | .tuple _ :: _, _, _, _, h | .dict _ :: _, _, _, _, h => by cases h
def fLen : List Dt → Option Rs
  | [.list xs] => some (.v (.int xs.length))
  | [.tuple xs] => some (.v (.int xs.length))
  | [.str z] => if z.length ≤ sizeLine then some (.v (.int z.length)) else none
  | _ => none
def fAbs : List Dt → Option Rs
  | [.int i] => some (.v (.int (if i < 0 then -i else i)))
  | _ => none
def fInt : List Dt → Option Rs
  | [.int i] => some (.v (.int i))
  | [.bool b] => some (.v (.int (if b then 1 else 0)))
  | _ => none
def fSum : List Dt → Option Rs
  | [.list xs] => (intsOf xs).map fun ns => .v (.int ns.sum)
  | [.tuple xs] => (intsOf xs).map fun ns => .v (.int ns.sum)
  | _ => none
def fAll : List Dt → Option Rs
  | [.list xs] => (blsOf xs).map fun bs => .v (.bool (bs.all id))
  | _ => none
def fAny : List Dt → Option Rs
  | [.list xs] => (blsOf xs).map fun bs => .v (.bool (bs.any id))
  | _ => none
def fTup : List Dt → Option Rs
  | [.list xs] => some (.v (.tuple xs))
  | [.tuple xs] => some (.v (.tuple xs))
  | _ => none
def fLst : List Dt → Option Rs
  | [.list xs] => some (.nw (.list xs))
  | [.tuple xs] => some (.nw (.list xs))
  | _ => none
def fMax2 : List Dt → Option Rs
  | [.int i, .int j] => some (.v (.int (if j > i then j else i)))
  | _ => none
def fMin2 : List Dt → Option Rs
  | [.int i, .int j] => some (.v (.int (if j < i then j else i)))
  | _ => none
def okRepr (d : Dt) : Bool := d.canLay0 && d.showable && decide (d.depth ≤ 60) && decide (d.shown.length ≤ sizeLine)
def fRepr : List Dt → Option Rs
  | [.int i] => if i.natAbs.log2 < 1920 then some (.v (.str (PyData.int i).shown)) else none
  | [.list xs] => if okRepr (.list xs) then some (.v (.str (PyData.list xs).shown)) else none
  | [.tuple xs] => if okRepr (.tuple xs) then some (.v (.str (PyData.tuple xs).shown)) else none
  | [.none] => some (.v (.str "None"))
  | [.bool b] => some (.v (.str (if b then "True" else "False")))
  | [.str x] => if (reprText x).length ≤ sizeLine then some (.v (.str (reprText x))) else none
  | _ => none
theorem Rts.one {K : PySem.W.Frag} {O : AS} {H : Hp} {xs : List V} {d : Dt} (h : Rts K O H xs [d]) : ∃ v, xs = [v] ∧ Rt K O H v d := by
  cases h with
  | cons a b => cases b; exact ⟨_, rfl, a⟩
theorem Rts.two {K : PySem.W.Frag} {O : AS} {H : Hp} {xs : List V} {d e : Dt} (h : Rts K O H xs [d, e]) : ∃ v w, xs = [v, w] ∧ Rt K O H v d ∧ Rt K O H w e := by
  cases h with
  | cons a b => obtain ⟨w, rfl, q⟩ := b.one; exact ⟨_, _, rfl, a, q⟩
theorem Rts.three {K : PySem.W.Frag} {O : AS} {H : Hp} {xs : List V} {d e f : Dt} (h : Rts K O H xs [d, e, f]) : ∃ v w x, xs = [v, w, x] ∧ Rt K O H v d ∧ Rt K O H w e ∧ Rt K O H x f := by
  cases h with
  | cons a b => obtain ⟨w, x, rfl, q⟩ := b.two; exact ⟨_, _, _, rfl, a, q⟩
section
variable {X : Cx}
theorem cv_len : CallR X (.builtin "len") (rCall X.K fLen) := by
  intro pins s σ H xs us Q I r h
  obtain ⟨O, ds, z, hO, hd, hz, q⟩ := h
  unfold fLen at hz
  split at hz
  · cases hz
    obtain ⟨v, rfl, h1⟩ := hd.one
    obtain ⟨a, ys, rfl, hs, hr⟩ := rt_list h1
    exact call_len_seq pins s σ H _ us Q I r ⟨a, ys, rfl, .inl hs, q _ H .refl (by rw [hr.length]; exact .int _)⟩
  · cases hz
    obtain ⟨v, rfl, h1⟩ := hd.one
    obtain ⟨a, ys, rfl, hs, hr⟩ := rt_tuple h1
    exact call_len_seq pins s σ H _ us Q I r ⟨a, ys, rfl, .inr hs, q _ H .refl (by rw [hr.length]; exact .int _)⟩
  · split at hz
    · rename_i hl
      cases hz
      obtain ⟨v, rfl, h1⟩ := hd.one
      rw [rt_str h1] at r
      exact call_len_str pins s σ H _ us Q I r ⟨_, rfl, hl, q _ H .refl (.int _)⟩
    · cases hz
  · cases hz
theorem cv_abs : CallR X (.builtin "abs") (rCall X.K fAbs) := by
  intro pins s σ H xs us Q I r h
  obtain ⟨O, ds, z, hO, hd, hz, q⟩ := h
  unfold fAbs at hz
  split at hz
  · cases hz
    obtain ⟨v, rfl, h1⟩ := hd.one
    rw [rt_int h1] at r
    exact call_abs pins s σ H _ us Q I r ⟨_, rfl, q _ H .refl (.int _)⟩
  · cases hz
theorem cv_int : CallR X (.type "int") (rCall X.K fInt) := by
  intro pins s σ H xs us Q I r h
  obtain ⟨O, ds, z, hO, hd, hz, q⟩ := h
  unfold fInt at hz
  split at hz
  · cases hz
    obtain ⟨v, rfl, h1⟩ := hd.one
    rw [rt_int h1] at r
    exact call_int1 pins s σ H _ us Q I r (.inl ⟨_, rfl, q _ H .refl (.int _)⟩)
  · cases hz
    obtain ⟨v, rfl, h1⟩ := hd.one
    rw [rt_bool h1] at r
    exact call_int1 pins s σ H _ us Q I r (.inr ⟨_, rfl, q _ H .refl (.int _)⟩)
  · cases hz
theorem cv_sum (hc : X.calm = true) : CallR X (.builtin "sum") (rCall X.K fSum) := by
  intro pins s σ H xs us Q I r h
  obtain ⟨O, ds, z, hO, hd, hz, q⟩ := h
  unfold fSum at hz
  split at hz
  · simp only [Option.map_eq_some_iff] at hz
    obtain ⟨ns, h2, rfl⟩ := hz
    obtain ⟨v, rfl, h1⟩ := hd.one
    obtain ⟨a, ys, rfl, hs, hr⟩ := rt_list h1
    rw [intsOf_rp hr h2] at hs
    exact cr_sum hc pins s σ H _ us Q I r ⟨a, ns, rfl, hs, q _ H .refl (.int _)⟩
  · simp only [Option.map_eq_some_iff] at hz
    obtain ⟨ns, h2, rfl⟩ := hz
    obtain ⟨v, rfl, h1⟩ := hd.one
    obtain ⟨a, ys, rfl, hs, hr⟩ := rt_tuple h1
    rw [intsOf_rp hr h2] at hs
    obtain ⟨its, rv, ht, _⟩ := I.tuple hs
    rw [Vals.ref1 r]
    have hi := intsAre_of rv
    obtain ⟨xs, hx⟩ := hi.allInts.items
    have hn : numsOf its.toArray.toList = ns := by rw [show its.toArray.toList = its by simp, hi.numsOf]
    have hx' : its.toArray = intItems xs := by simpa using hx
    have ht' : s.heap.IsTuple a its.toArray := ht
    rw [hx'] at ht' hn
    rw [nums_intItems] at hn
    refine PySem.W.ktm_sumG (I.ok.hd hc) ht' fun h' tk t' hk => ?_
    rw [preSum_eq, List.take_of_length_le (by simp), hn]
    exact ⟨.int _, H, I.kept hk, ⟨_, rfl⟩, q _ H .refl (.int _)⟩
  · cases hz
theorem cv_all (hc : X.calm = true) : CallR X (.builtin "all") (rCall X.K fAll) := by
  intro pins s σ H xs us Q I r h
  obtain ⟨O, ds, z, hO, hd, hz, q⟩ := h
  unfold fAll at hz
  split at hz
  · simp only [Option.map_eq_some_iff] at hz
    obtain ⟨ns, h2, rfl⟩ := hz
    obtain ⟨v, rfl, h1⟩ := hd.one
    obtain ⟨a, ys, rfl, hs, hr⟩ := rt_list h1
    rw [blsOf_rp hr h2] at hs
    exact cr_all hc pins s σ H _ us Q I r ⟨a, ns, rfl, hs, q _ H .refl (.bl _)⟩
  · cases hz
theorem cv_any (hc : X.calm = true) : CallR X (.builtin "any") (rCall X.K fAny) := by
  intro pins s σ H xs us Q I r h
  obtain ⟨O, ds, z, hO, hd, hz, q⟩ := h
  unfold fAny at hz
  split at hz
  · simp only [Option.map_eq_some_iff] at hz
    obtain ⟨ns, h2, rfl⟩ := hz
    obtain ⟨v, rfl, h1⟩ := hd.one
    obtain ⟨a, ys, rfl, hs, hr⟩ := rt_list h1
    rw [blsOf_rp hr h2] at hs
    exact cr_any hc pins s σ H _ us Q I r ⟨a, ns, rfl, hs, q _ H .refl (.bl _)⟩
  · cases hz
theorem cv_tup : CallR X (.type "tuple") (rCall X.K fTup) := by
  intro pins s σ H xs us Q I r h
  obtain ⟨O, ds, z, hO, hd, hz, q⟩ := h
  unfold fTup at hz
  split at hz
  · cases hz
    obtain ⟨v, rfl, h1⟩ := hd.one
    obtain ⟨a, ys, rfl, hs, hr⟩ := rt_list h1
    exact call_tuple_of pins s σ H _ us Q I r ⟨a, ys, rfl, .inl ⟨hs, fun l hl => q _ _ (.new hl) (res_tup hr hl)⟩⟩
  · cases hz
    obtain ⟨v, rfl, h1⟩ := hd.one
    obtain ⟨a, ys, rfl, hs, hr⟩ := rt_tuple h1
    refine call_tuple_of pins s σ H _ us Q I r ⟨a, ys, rfl, .inr ⟨hs, q _ H .refl ?_⟩⟩
    cases h1 with
    | rp h1 => exact h1
  · cases hz
theorem cv_lst : CallR X (.type "list") (rCall X.K fLst) := by
  intro pins s σ H xs us Q I r h
  obtain ⟨O, ds, z, hO, hd, hz, q⟩ := h
  unfold fLst at hz
  split at hz
  · cases hz
    obtain ⟨v, rfl, h1⟩ := hd.one
    obtain ⟨a, ys, rfl, hs, hr⟩ := rt_list h1
    exact call_list_of pins s σ H _ us Q I r ⟨a, ys, rfl, .inl hs, fun l hl => q _ _ (.new hl) (res_list hr hl)⟩
  · cases hz
    obtain ⟨v, rfl, h1⟩ := hd.one
    obtain ⟨a, ys, rfl, hs, hr⟩ := rt_tuple h1
    exact call_list_of pins s σ H _ us Q I r ⟨a, ys, rfl, .inr hs, fun l hl => q _ _ (.new hl) (res_list hr hl)⟩
  · cases hz
theorem cv_max2 (hc : X.calm = true) : CallR X (.builtin "max") (rCall X.K fMax2) := by
  intro pins s σ H xs us Q I r h
  obtain ⟨O, ds, z, hO, hd, hz, q⟩ := h
  unfold fMax2 at hz
  split at hz
  · cases hz
    obtain ⟨v, w, rfl, h1, h2⟩ := hd.two
    rw [rt_int h1, rt_int h2] at r
    exact call_max2 hc pins s σ H _ us Q I r ⟨_, _, rfl, q _ H .refl (.int _)⟩
  · cases hz
theorem cv_min2 (hc : X.calm = true) : CallR X (.builtin "min") (rCall X.K fMin2) := by
  intro pins s σ H xs us Q I r h
  obtain ⟨O, ds, z, hO, hd, hz, q⟩ := h
  unfold fMin2 at hz
  split at hz
  · cases hz
    obtain ⟨v, w, rfl, h1, h2⟩ := hd.two
    rw [rt_int h1, rt_int h2] at r
    exact call_min2 hc pins s σ H _ us Q I r ⟨_, _, rfl, q _ H .refl (.int _)⟩
  · cases hz
theorem noDict_of_lay : (∀ d : Dt, d.canLay0 = true → d.hasDict = false) := by
  refine @PyData.rec (fun d => d.canLay0 = true → d.hasDict = false) (fun ds => PyData.canLayAll0 ds = true → PyData.hasDictAll ds = false) (fun _ => True) (fun _ => True) ?_ ?_ ?_ ?_ ?_ ?_ ?_ ?_ ?_ ?_ ?_ ?_
  · intro _; simp [PyData.hasDict]
  · intro _ _; simp [PyData.hasDict]
  · intro _ _; simp [PyData.hasDict]
  · intro _ _; simp [PyData.hasDict]
  · intro xs ih h; simp only [PyData.hasDict]; exact ih (by simpa [PyData.canLay0] using h)
  · intro xs ih h; simp only [PyData.hasDict]; exact ih (by simpa [PyData.canLay0] using h)
  · intro kvs _ h; simp [PyData.canLay0] at h
  · intro _; simp [PyData.hasDictAll]
  · intro d ds h1 h2 h
    simp only [PyData.canLayAll0, Bool.and_eq_true] at h
    simp only [PyData.hasDictAll, h1 h.1, h2 h.2, Bool.or_self]
  · trivial
  · intros; trivial
  · intros; trivial
theorem repr_ref {pins : List (Addr × Obj)} {s : Shared} {σ : L2.St} {H : Hp} {a : Addr} {d : Dt} {Q : VK} {O : AS} (hg : X.A.guards = some []) (hu : X.A.units + 64 < cLine) (I : Inv X pins σ H s) (h1 : Rt X.K O H (.ref a) d) (ok : okRepr d = true) (q : Q (.str d.shown) H) :
    wpAny (model X.prog X.w) X.A (call (.builtin "repr") [.ref a]) (EP X pins σ Q) X.xe s := by
  simp only [okRepr, Bool.and_eq_true, decide_eq_true_eq] at ok
  obtain ⟨⟨⟨o1, o2⟩, o3⟩, o4⟩ := ok
  obtain ⟨as, hr⟩ := Dp.reads I d _ _ (rt_dp h1 o1) rfl
  refine repr_of_reads' hr o2 (fun z => ?_) hg (by omega) (fun _ _ e => e) (fun h' u tk hk => ⟨.str d.shown, H, I.kept hk, ⟨_, rfl⟩, q⟩) o4
  rw [noDict_of_lay d o1] at z
  cases z
theorem cv_repr (hg : X.A.guards = some []) (hu : X.A.units + 64 < cLine) : CallR X (.builtin "repr") (rCall X.K fRepr) := by
  intro pins s σ H xs us Q I r h
  obtain ⟨O, ds, z, hO, hd, hz, q⟩ := h
  unfold fRepr at hz
  split at hz
  · split at hz
    · rename_i hl
      cases hz
      obtain ⟨v, rfl, h1⟩ := hd.one
      rw [rt_int h1] at r
      refine SkE.call_repr_int pins s σ H _ us Q I r ⟨_, rfl, hl, ?_⟩
      have := q _ H .refl (.str _)
      simpa only [PyData.shown] using this
    · cases hz
  · split at hz
    · rename_i hl
      cases hz
      obtain ⟨v, rfl, h1⟩ := hd.one
      obtain ⟨a, ys, rfl, hs, hr⟩ := rt_list h1
      rw [Vals.ref1 r]
      exact repr_ref hg hu I h1 hl (q _ H .refl (.str _))
    · cases hz
  · split at hz
    · rename_i hl
      cases hz
      obtain ⟨v, rfl, h1⟩ := hd.one
      obtain ⟨a, ys, rfl, hs, hr⟩ := rt_tuple h1
      rw [Vals.ref1 r]
      exact repr_ref hg hu I h1 hl (q _ H .refl (.str _))
    · cases hz
  · cases hz
    obtain ⟨v, rfl, h1⟩ := hd.one
    rw [rt_none h1] at r
    cases r with
    | cons a b =>
      cases a
      cases b
      exact PySem.P.repr_of_none ⟨.str _, H, I.tok _, ⟨_, rfl⟩, q _ H .refl (.str _)⟩
  · cases hz
    obtain ⟨v, rfl, h1⟩ := hd.one
    rw [rt_bool h1] at r
    cases r with
    | cons a b =>
      cases a
      cases b
      exact PySem.P.repr_of_bool ⟨.str _, H, I.tok _, ⟨_, rfl⟩, q _ H .refl (.str _)⟩
  · split at hz
    · rename_i hl
      cases hz
      obtain ⟨v, rfl, h1⟩ := hd.one
      rw [rt_str h1] at r
      obtain ⟨u, rfl, t, rfl⟩ := vals1 r
      exact PySem.P.repr_of_str ⟨.str _, H, I.tok _, ⟨_, rfl⟩, q _ H .refl (.str _)⟩ hl
    · cases hz
  · cases hz
end
end Iv
set_option Elab.async false
set_option linter.all false
set_option maxRecDepth 100000
set_option maxHeartbeats 2000000
namespace Iv
open PySem L2 PyProof.Rows
variable [Cst]
/-! ### isinstance(x, T) -/
def tyD : Dt → Option String
  | .none => some "NoneType"
  | .bool _ => some "bool"
  | .int _ => some "int"
  | .str _ => some "str"
  | .list _ => some "list"
  | .tuple _ => some "tuple"
  | .dict _ => none
def fIsi (T : String) (d : Dt) : Option Rs := (tyD d).bind fun t => (kitB t T).map fun b => .v (.bool b)
theorem ty_rt {K : PySem.W.Frag} {O : AS} {H : Hp} {v : V} {d : Dt} {t : String} (h : Rt K O H v d) (e : tyD d = some t) : TyX K H v (.type t) := by
  cases d with
  | none => rw [rt_none h]; cases e; exact .base .non
  | bool b => rw [rt_bool h]; cases e; exact .base (.bl b)
  | int i => rw [rt_int h]; cases e; exact .base (.int i)
  | str x => rw [rt_str h]; cases e; exact .base (.str x)
  | list xs =>
    obtain ⟨a, ys, rfl, hs, _⟩ := rt_ls h
    cases e
    rcases hs with (q | ⟨o, q⟩) | ⟨its, n, q, _⟩
    · exact .base (.lst q)
    · exact .base (.frz q)
    · exact .kList q rfl
  | tuple xs =>
    obtain ⟨a, ys, rfl, hs, _⟩ := rt_tuple h
    cases e
    rcases hs with (q | ⟨o, q⟩) | ⟨o, its, n, q, c, _⟩
    · exact .base (.tup q)
    · exact .fTuple q
    · exact .kTuple q c
  | dict kvs => cases e
theorem isi_read {K : PySem.W.Frag} {T : String} {ma : M Rs} (σ : L2.St) (H : Hp) (Q : VK) (h : tOf K (mUn (fIsi T) ma) σ H Q) : tCB (rIsi K) (tCons (tOf K ma) (tCons (tC (.ty T)) tNil)) σ H Q := by
  obtain ⟨E, τ, r, τ', S, hm, k⟩ := h
  simp only [mUn, Option.bind_eq_some_iff, Option.map_eq_some_iff] at hm
  obtain ⟨⟨ra, τ1⟩, h1, d, h3, z, h5, h6⟩ := hm
  cases h6
  refine ⟨E, τ, ra, _, S, h1, fun x H1 P1 => ?_⟩
  simp only [fIsi, Option.bind_eq_some_iff, Option.map_eq_some_iff] at h5
  obtain ⟨t, h7, b, h8, rfl⟩ := h5
  exact ⟨x, .ty T, .type t, .type T, b, rfl, .ty T, ty_rt (P1.read h3) h7, kit_ty h8, k _ H1 (P1.comp (post_step P1.srep .refl (r := .v (.bool b)) (.bl b)))⟩
section
variable {X : Cx} {a b e o : Expr} {es : List Expr} {ma mb me mo : M Rs} {pos pos' p p1 : Pos} {T : String}
theorem se_isi {x y : Str} (hg : Gl X x) (hm : X.mg x = none) (hv : bootBuiltins x = some (.builtin "isinstance")) (hg2 : Gl X y) (hm2 : X.mg y = none) (hv2 : bootBuiltins y = some (.type T)) (ha : SE X a ma)
    (hn : x ≠ "__name__" := by decide) (hdb : (x == ("__debug__" : Str)) = false := by decide) (hn2 : y ≠ "__name__" := by decide) (hdb2 : (y == ("__debug__" : Str)) = false := by decide)
    (he : starEach (a :: [.Name y p1]) X.env = (false, eval a X.env) :: starEach [.Name y p1] X.env := by rfl) (he2 : starEach [.Name y p1] X.env = (false, eval (.Name y p1) X.env) :: starEach [] X.env := by rfl)
    (hpl : (backTo pos (starEach [.Name y p1] X.env)).any (·.1) = false := by rfl) : SE X (.Call (.Name x p) [a, .Name y p1] [] pos) (mUn (fIsi T) ma) :=
  ⟨peW (pe_callB call_isi hg hm hv (pa_cons ha.pe (pa_cons (pe_bltn hg2 hm2 hv2 (v := .ty T) rfl hn2 hdb2) pa_nil he2) he) hn hdb he hpl) isi_read⟩
end
/-! ### a slot's thing is changed -/
section
variable {K : PySem.W.Frag} {E : AS} {τ τ' τ1 : Tau} {σ σ' : L2.St} {H H' H1 : Hp} {v : V} {d d' : Dt} {i : Nat} {a : Addr} {io : Bool} {o : HO}
theorem os_ow (e : τ[i]? = some (.ow io d)) {b : Addr} : Os (τ.set i (.ow io d')) σ b ↔ Os τ σ b := by
  have hi := (List.getElem?_eq_some_iff.mp e).1
  constructor
  · rintro ⟨k, s, z1, z2, z3⟩
    by_cases hk : i = k
    · subst hk
      exact ⟨i, _, e, rfl, z3⟩
    · rw [List.getElem?_set_ne hk] at z1
      exact ⟨k, s, z1, z2, z3⟩
  · rintro ⟨k, s, z1, z2, z3⟩
    by_cases hk : i = k
    · subst hk
      exact ⟨i, _, List.getElem?_set_self hi, rfl, z3⟩
    · exact ⟨k, s, by rw [List.getElem?_set_ne hk]; exact z1, z2, z3⟩
theorem SRep.mut (S : SRep K E τ σ H) (e : τ[i]? = some (.ow io d)) (hv : σ[i]? = some (some (.ref a))) (w : Own K (Av E τ σ) (upd H a o) a d') : PostB K E τ σ H (τ.set i (.ow io d')) (upd H a o) := by
  have hi := (List.getElem?_eq_some_iff.mp e).1
  obtain ⟨a', q1, q2, q3⟩ := S.ow i io d e
  rw [hv] at q1
  cases q1
  have nt := q3.notup
  have ha : H a ≠ none := by obtain ⟨o, ho⟩ := q3.at; rw [ho]; simp
  have hm : Om τ σ a := ⟨i, io, d, e, hv⟩
  have ex : Ext (Om τ σ) H (upd H a o) := .put hm nt q3.pl (w.nt o upd_same)
  have wk : Wk (Av E (τ.set i (.ow io d')) σ) H (upd H a o) := (ex.wider fun b q => .inr ((os_ow e).2 (om_os q))).wk
  have hO : ∀ b, Av E (τ.set i (.ow io d')) σ b → Av E τ σ b ∨ H b = none := fun b q => .inl (q.imp id (os_ow e).1)
  have ne : ∀ (k : Nat) (s : Sl) (b : Addr), i ≠ k → τ[k]? = some s → s.isO = true → σ[k]? = some (some (.ref b)) → b ≠ a := fun k s b hk z1 z2 z3 z => by
    subst z
    exact hk (S.inj i k _ _ b e z1 rfl z2 hv z3)
  have kp : ∀ b u, b ≠ a → H b = some u → upd H a o b = some u := fun b u q r => by rw [upd_ne q]; exact r
  have dn : Dn τ (τ.set i (.ow io d')) := ⟨List.length_set .., fun k s q => by
    by_cases hk : i = k
    · subst hk
      rw [e] at q
      cases q
      exact ⟨_, List.getElem?_set_self hi, .inr (.inl ⟨io, d, d', rfl, rfl⟩)⟩
    · exact ⟨s, by rw [List.getElem?_set_ne hk]; exact q, .inl rfl⟩⟩
  refine ⟨ex, dn, ⟨by rw [List.length_set]; exact S.len, fun b q => ex.dom b (S.ex b q), ex.tabs S.tb, fun k d2 q => ?_, fun k io2 d2 q => ?_, fun k io2 d2 q => ?_, fun k a q => S.ad k a (ad_set (fun _ z => by cases z) q).1, fun k l s t b q1 q2 q3 q4 q5 q6 => ?_⟩⟩
  · by_cases hk : i = k
    · subst hk
      rw [List.getElem?_set_self hi] at q
      cases q
    · rw [List.getElem?_set_ne hk] at q
      obtain ⟨v', y1, y2⟩ := S.sh k d2 q
      exact ⟨v', y1, y2.mono wk hO⟩
  · by_cases hk : i = k
    · subst hk
      rw [List.getElem?_set_self hi] at q
      cases q
      exact ⟨a, hv, q2, w.av fun b q => q.imp id (os_ow e).1⟩
    · rw [List.getElem?_set_ne hk] at q
      obtain ⟨b, y1, y2, y3⟩ := S.ow k io2 d2 q
      exact ⟨b, y1, y2, y3.mono wk hO fun u r => kp b u (ne k _ b hk q rfl y1) r⟩
  · by_cases hk : i = k
    · subst hk
      rw [List.getElem?_set_self hi] at q
      cases q
    · rw [List.getElem?_set_ne hk] at q
      obtain ⟨b, y1, y2, y3, y4, y5⟩ := S.lo k io2 d2 q
      have nb : b ≠ a := ne k _ b hk q rfl y1
      refine ⟨b, y1, y2, by rw [upd_ne nb]; exact y3, fun u r => y4 u (by rw [upd_ne nb] at r; exact r), y5.mono wk hO fun c q => .inl fun u r _ => ?_⟩
      cases q
      rcases r with r | ⟨o2, r⟩
      · exact .inl (kp _ _ nb r)
      · exact .inr ⟨o2, kp _ _ nb r⟩
  · have ns : ∀ (m : Nat) (s : Sl), (τ.set i (.ow io d'))[m]? = some s → s.isO = true → ∃ s', τ[m]? = some s' ∧ s'.isO = true := fun m s z1 z2 => by
      by_cases hk : i = m
      · subst hk
        exact ⟨_, e, rfl⟩
      · rw [List.getElem?_set_ne hk] at z1
        exact ⟨s, z1, z2⟩
    obtain ⟨s', y1, y2⟩ := ns k s q1 q3
    obtain ⟨t', y3, y4⟩ := ns l t q2 q4
    exact S.inj k l s' t' b y1 y3 y2 y4 q5 q6
/-- what is written is already of the new heap -/
theorem rpL_put {O : AS} {xs : List V} {ds : List Dt} (r : RpL K O H xs ds) (ha : O a) (nt : ∀ xs, H a ≠ some (.tup xs)) : RpL K O (upd H a o) xs ds := r.mono (Wk.put ha nt) fun _ z => .inl z
theorem rpK_put {O : AS} {xs : List (Key × V)} {ds : List (Dt × Dt)} (r : RpK K O H xs ds) (ha : O a) (nt : ∀ xs, H a ≠ some (.tup xs)) : RpK K O (upd H a o) xs ds := r.mono (Wk.put ha nt) fun _ z => .inl z
theorem rpT_put {O : AS} {xs : List (List Key × V)} {ds : List (Dt × Dt)} (r : RpT K O H xs ds) (ha : O a) (nt : ∀ xs, H a ≠ some (.tup xs)) : RpT K O (upd H a o) xs ds := r.mono (Wk.put ha nt) fun _ z => .inl z
end
/-! ### keys -/
def k1D : Dt → Option Key
  | .int i => some (.inl i)
  | .str x => some (.inr x)
  | _ => none
def kLD : List Dt → Option (List Key)
  | [] => some []
  | d :: ds => (k1D d).bind fun k => (kLD ds).map (k :: ·)
abbrev Key2 := Key ⊕ List Key
def keyD : Dt → Option Key2
  | .int i => some (.inl (.inl i))
  | .str x => some (.inl (.inr x))
  | .tuple ds => (kLD ds).map .inr
  | _ => none
@[simp] theorem k1D_kD (k : Key) : k1D (kD k) = some k := by cases k <;> rfl
@[simp] theorem kLD_kD : ∀ ks : List Key, kLD (ks.map kD) = some ks
  | [] => rfl
  | k :: ks => by simp [kLD, kLD_kD ks]
@[simp] theorem keyD_kD (k : Key) : keyD (kD k) = some (.inl k) := by cases k <;> rfl
@[simp] theorem keyD_tup (ks : List Key) : keyD (.tuple (ks.map kD)) = some (.inr ks) := by simp [keyD]
theorem k1D_inv {d : Dt} {k : Key} (h : k1D d = some k) : d = kD k := by
  cases d with
  | int i => cases h; rfl
  | str x => cases h; rfl
  | _ => cases h
theorem kLD_inv : ∀ {ds : List Dt} {ks : List Key}, kLD ds = some ks → ds = ks.map kD
  | [], _, h => by cases h; rfl
  | d :: ds, _, h => by
    simp only [kLD, Option.bind_eq_some_iff, Option.map_eq_some_iff] at h
    obtain ⟨k, h1, ks, h2, rfl⟩ := h
    rw [List.map_cons, ← k1D_inv h1, ← kLD_inv h2]
theorem keyD_inl {d : Dt} {k : Key} (h : keyD d = some (.inl k)) : d = kD k := by
  cases d with
  | int i => cases h; rfl
  | str x => cases h; rfl
  | tuple xs => simp [keyD] at h
  | _ => cases h
theorem keyD_inr {d : Dt} {k : List Key} (h : keyD d = some (.inr k)) : d = .tuple (k.map kD) := by
  cases d with
  | tuple xs =>
    simp only [keyD, Option.map_eq_some_iff] at h
    obtain ⟨ks, h1, h2⟩ := h
    cases h2
    rw [kLD_inv h1]
  | _ => cases h
/-- the value at a key -/
def getK (kvs : List (Dt × Dt)) (k : Key2) : Option Dt := (kvs.find? fun p => decide (keyD p.1 = some k)).map (·.2)
def putD (kvs : List (Dt × Dt)) (kd : Dt) (k : Key2) (v : Dt) : List (Dt × Dt) :=
  if (kvs.any fun p => decide (keyD p.1 = some k)) = true then kvs.map (fun p => if keyD p.1 = some k then (p.1, v) else p) else kvs ++ [(kd, v)]
def isK (k : Key2) : Bool := k.isLeft
/-- the dict's keys are of the key's kind -/
def likeK (kvs : List (Dt × Dt)) (k : Key2) : Bool := kvs.all fun p => match keyD p.1 with
  | some k' => isK k' == isK k
  | none => false
section
variable {K : PySem.W.Frag} {O : AS} {H : Hp}
theorem rpK_get : ∀ {kvs : List (Key × V)} {ds : List (Dt × Dt)} (r : RpK K O H kvs ds) (k : Key), (∀ d, getK ds (.inl k) = some d → ∃ v, valV kvs k = some v ∧ Rp K O H v d) ∧ (getK ds (.inl k) = none → valV kvs k = none)
  | _, _, .nil, k => ⟨fun d h => (nomatch h), fun _ => rfl⟩
  | _, _, .cons (k := k') (v := v) (d := d') (vs := vs) (ds := ds) r1 r2, k => by
    obtain ⟨h1, h2⟩ := rpK_get r2 k
    by_cases hk : k' = k
    · subst hk
      have e1 : getK ((kD k', d') :: ds) (.inl k') = some d' := by simp [getK]
      have e2 : valV ((k', v) :: vs) k' = some v := valV_pos rfl
      refine ⟨fun d h => ⟨v, e2, ?_⟩, fun h => ?_⟩
      · rw [e1] at h; cases h; exact r1
      · rw [e1] at h; cases h
    · have e1 : getK ((kD k', d') :: ds) (.inl k) = getK ds (.inl k) := by simp [getK, List.find?_cons, hk]
      rw [e1, valV_neg hk]
      exact ⟨h1, h2⟩
theorem rpT_get : ∀ {kvs : List (List Key × V)} {ds : List (Dt × Dt)} (r : RpT K O H kvs ds) (k : List Key), (∀ d, getK ds (.inr k) = some d → ∃ v, valV kvs k = some v ∧ Rp K O H v d) ∧ (getK ds (.inr k) = none → valV kvs k = none)
  | _, _, .nil, k => ⟨fun d h => (nomatch h), fun _ => rfl⟩
  | _, _, .cons (k := k') (v := v) (d := d') (vs := vs) (ds := ds) r1 r2, k => by
    obtain ⟨h1, h2⟩ := rpT_get r2 k
    by_cases hk : k' = k
    · subst hk
      have e1 : getK ((.tuple (k'.map kD), d') :: ds) (.inr k') = some d' := by simp [getK]
      have e2 : valV ((k', v) :: vs) k' = some v := valV_pos rfl
      refine ⟨fun d h => ⟨v, e2, ?_⟩, fun h => ?_⟩
      · rw [e1] at h; cases h; exact r1
      · rw [e1] at h; cases h
    · have e1 : getK ((.tuple (k'.map kD), d') :: ds) (.inr k) = getK ds (.inr k) := by simp [getK, List.find?_cons, hk]
      rw [e1, valV_neg hk]
      exact ⟨h1, h2⟩
theorem rpK_any {kvs : List (Key × V)} {ds : List (Dt × Dt)} (r : RpK K O H kvs ds) (k : Key) : (ds.any fun p => decide (keyD p.1 = some (.inl k))) = kvs.any fun kv => decide (kv.1 = k) := by
  induction kvs generalizing ds with
  | nil => cases r; rfl
  | cons p kvs ih =>
    cases r with
    | cons r1 r2 =>
      rw [List.any_cons, List.any_cons, ih r2]
      simp
theorem rpT_any {kvs : List (List Key × V)} {ds : List (Dt × Dt)} (r : RpT K O H kvs ds) (k : List Key) : (ds.any fun p => decide (keyD p.1 = some (.inr k))) = kvs.any fun kv => decide (kv.1 = k) := by
  induction kvs generalizing ds with
  | nil => cases r; rfl
  | cons p kvs ih =>
    cases r with
    | cons r1 r2 =>
      rw [List.any_cons, List.any_cons, ih r2]
      simp
theorem rpK_map {kvs : List (Key × V)} {ds : List (Dt × Dt)} (r : RpK K O H kvs ds) (k : Key) {v : V} {d : Dt} (rv : Rp K O H v d) : RpK K O H (kvs.map fun kv => if kv.1 = k then (kv.1, v) else kv) (ds.map fun p => if keyD p.1 = some (.inl k) then (p.1, d) else p) := by
  induction kvs generalizing ds with
  | nil => cases r; exact .nil
  | cons p kvs ih =>
    cases r with
    | @cons k' _ _ _ _ r1 r2 =>
      rw [List.map_cons, List.map_cons]
      by_cases hk : k' = k
      · subst hk
        simp only [keyD_kD, if_true]
        exact .cons rv (ih r2)
      · simp only [keyD_kD, Option.some.injEq, Sum.inl.injEq, hk, if_false]
        exact .cons r1 (ih r2)
theorem rpT_map {kvs : List (List Key × V)} {ds : List (Dt × Dt)} (r : RpT K O H kvs ds) (k : List Key) {v : V} {d : Dt} (rv : Rp K O H v d) : RpT K O H (kvs.map fun kv => if kv.1 = k then (kv.1, v) else kv) (ds.map fun p => if keyD p.1 = some (.inr k) then (p.1, d) else p) := by
  induction kvs generalizing ds with
  | nil => cases r; exact .nil
  | cons p kvs ih =>
    cases r with
    | @cons k' _ _ _ _ r1 r2 =>
      rw [List.map_cons, List.map_cons]
      by_cases hk : k' = k
      · subst hk
        simp only [keyD_tup, if_true]
        exact .cons rv (ih r2)
      · simp only [keyD_tup, Option.some.injEq, Sum.inr.injEq, hk, if_false]
        exact .cons r1 (ih r2)
theorem rpK_app {kvs ls : List (Key × V)} {ds es : List (Dt × Dt)} (r : RpK K O H kvs ds) (r2 : RpK K O H ls es) : RpK K O H (kvs ++ ls) (ds ++ es) := by
  induction kvs generalizing ds with
  | nil => cases r; exact r2
  | cons p kvs ih =>
    cases r with
    | cons h1 h2 => exact .cons h1 (ih h2)
theorem rpT_app {kvs ls : List (List Key × V)} {ds es : List (Dt × Dt)} (r : RpT K O H kvs ds) (r2 : RpT K O H ls es) : RpT K O H (kvs ++ ls) (ds ++ es) := by
  induction kvs generalizing ds with
  | nil => cases r; exact r2
  | cons p kvs ih =>
    cases r with
    | cons h1 h2 => exact .cons h1 (ih h2)
theorem rpK_put2 {kvs : List (Key × V)} {ds : List (Dt × Dt)} (r : RpK K O H kvs ds) (k : Key) {v : V} {d : Dt} (rv : Rp K O H v d) : RpK K O H (putK kvs k v) (putD ds (kD k) (.inl k) d) := by
  unfold putK putD
  rw [rpK_any r]
  split
  · exact rpK_map r k rv
  · exact rpK_app r (.cons rv .nil)
theorem rpT_put2 {kvs : List (List Key × V)} {ds : List (Dt × Dt)} (r : RpT K O H kvs ds) (k : List Key) {v : V} {d : Dt} (rv : Rp K O H v d) : RpT K O H (putK kvs k v) (putD ds (.tuple (k.map kD)) (.inr k) d) := by
  unfold putK putD
  rw [rpT_any r]
  split
  · exact rpT_map r k rv
  · exact rpT_app r (.cons rv .nil)
theorem rpK_len {kvs : List (Key × V)} {ds : List (Dt × Dt)} (r : RpK K O H kvs ds) : kvs.length = ds.length := by
  induction kvs generalizing ds with
  | nil => cases r; rfl
  | cons p kvs ih => cases r with | cons h1 h2 => rw [List.length_cons, List.length_cons, ih h2]
theorem rpT_len {kvs : List (List Key × V)} {ds : List (Dt × Dt)} (r : RpT K O H kvs ds) : kvs.length = ds.length := by
  induction kvs generalizing ds with
  | nil => cases r; rfl
  | cons p kvs ih => cases r with | cons h1 h2 => rw [List.length_cons, List.length_cons, ih h2]
theorem rpK_like {kvs : List (Key × V)} {ds : List (Dt × Dt)} (r : RpK K O H kvs ds) {k : List Key} (h : likeK ds (.inr k) = true) : kvs = [] ∧ ds = [] := by
  cases r with
  | nil => exact ⟨rfl, rfl⟩
  | cons r1 r2 => simp [likeK, isK] at h
theorem rpT_like {kvs : List (List Key × V)} {ds : List (Dt × Dt)} (r : RpT K O H kvs ds) {k : Key} (h : likeK ds (.inl k) = true) : kvs = [] ∧ ds = [] := by
  cases r with
  | nil => exact ⟨rfl, rfl⟩
  | cons r1 r2 => simp [likeK, isK] at h
/-- a key, where tuples may be keys -/
def keyQ (d : Dt) : Option Key2 := match d with
  | .tuple ds => if Cst.tk = true then keyD (.tuple ds) else none
  | d => keyD d
theorem keyQ_D {d : Dt} {k : Key2} (h : keyQ d = some k) : keyD d = some k := by
  unfold keyQ at h
  split at h
  · split at h
    · exact h
    · cases h
  · exact h
theorem keyQ_t {d : Dt} {k : List Key} (h : keyQ d = some (.inr k)) : Cst.tk = true := by
  unfold keyQ at h
  split at h
  · split at h
    · assumption
    · cases h
  · rename_i n
    cases d with
    | tuple ds => exact absurd rfl (n ds)
    | _ => cases h
@[simp] theorem keyQ_i (i : Int) : keyQ (.int i) = keyD (.int i) := rfl
@[simp] theorem keyQ_s (x : Str) : keyQ (.str x) = keyD (.str x) := rfl
theorem keyQ_k (k : Key) : keyQ (kD k) = some (.inl k) := by cases k <;> rfl
theorem keyQ_all (h : Cst.tk = true) (d : Dt) : keyQ d = keyD d := by
  unfold keyQ
  split
  · rw [if_pos h]
  · rfl
/-- a key as a value -/
theorem key_rp {v : V} {d : Dt} {k : Key} (h : Rt K O H v d) (e : keyD d = some (.inl k)) : v = kV k := by
  rw [keyD_inl e] at h
  cases k with
  | inl i => exact rt_int h
  | inr x => exact rt_str h
theorem keys_rp : ∀ {ks : List Key} {xs : List V}, RpL K O H xs (ks.map kD) → xs = ks.map kV
  | [], _, r => by cases r; rfl
  | k :: ks, _, r => by
    cases r with
    | cons r1 r2 => rw [List.map_cons, keys_rp r2, key_rp (.rp r1) (keyD_kD k)]
theorem keyT_rp (hC : Cst.tk = true → ∀ a, ¬ Cst.isC a) {v : V} {d : Dt} {k : List Key} (h : Rt K O H v d) (e' : keyQ d = some (.inr k)) : ∃ b, v = .ref b ∧ H b = some (.tup (k.map kV)) := by
  have e := keyQ_D e'
  rw [keyD_inr e] at h
  cases h with
  | rp h =>
    cases h with
    | tup e r => rw [keys_rp r] at e; exact ⟨_, rfl, e⟩
    | tuk c _ _ => exact absurd c (hC (keyQ_t e') _)
end
end Iv
set_option Elab.async false
set_option linter.all false
set_option maxRecDepth 100000
set_option maxHeartbeats 2000000
namespace Iv
open PySem L2 PyProof.Rows
variable [Cst]
/-! ### a dict that holds nothing is of either kind -/
section
variable {X : Cx} {pins : List (Addr × Obj)} {σ : L2.St} {H : Hp} {s : Shared} {a b : Addr} {A : Around} {E : Value → Shared → Prop}
theorem pairs_nil {K : Type} [DecidableEq K] {prog : Program} {w : World} {knd : KeyKind prog w K} {es : List DictEntry} (h : PySem.Pairs knd es []) : es = [] := by cases h; rfl
theorem nilK (I : Inv X pins σ H s) (e : Rd H a (.dK [])) : (a == sysModules) = false ∧ s.heap.DictOfH (tupleKind (mixKind X.prog X.w)) a [] := by
  obtain ⟨_, hd, vs, rel, o, es, ep, h1, h2, h3, h4, h5, h6⟩ := dk_rd I.hok e
  cases rel
  have := pairs_nil h5
  exact ⟨hd, o, es, ep, h1, h2, h3, this, fun x hx => (nomatch hx), List.nodup_nil⟩
theorem nilT (I : Inv X pins σ H s) (e : Rd H a (.dT [])) : (a == sysModules) = false ∧ s.heap.DictOf (mixKind X.prog X.w) a [] := by
  obtain ⟨_, hd, vs, rel, o, es, ep, h1, h2, h3, h4, h5, h6⟩ := dt_rd I.hok e
  cases rel
  have e0 : es.toList = [] := h4
  refine ⟨hd, o, es, ep, h1, h2, h3, fun x hx => ?_, ?_, List.nodup_nil⟩
  · rw [← Array.mem_toList_iff, e0] at hx
    cases hx
  · rw [e0]; exact .nil
theorem toT (I : Inv X pins σ H s) (e : H a = some (.dK [])) : Inv X pins σ (upd H a (.dT [])) s := by
  obtain ⟨hd, o, es, ep, h1, h2, h3, h4, h5, h6⟩ := nilK I (.inl e)
  exact I.write (x := a) (e := a) (t' := s.toks) (by rw [e]; trivial) (.inl rfl) (fun b u _ q => q) ⟨_, h1⟩ ⟨Nat.zero_le _, hd, [], .nil, o, es, ep, h1, h2, h3, h4, h6⟩
theorem toK (I : Inv X pins σ H s) (e : H a = some (.dT [])) : Inv X pins σ (upd H a (.dK [])) s := by
  obtain ⟨hd, dd⟩ := nilT I (.inl e)
  obtain ⟨o, es, ep, h1, h2, h3, h4, h5, h6⟩ := id dd
  exact I.write (x := a) (e := a) (t' := s.toks) (by rw [e]; trivial) (.inl rfl) (fun b u _ q => q) ⟨_, h1⟩ ⟨Nat.zero_le _, hd, [], .nil, dd⟩
/-- what the dict at a holds at y, nothing's kind being free -/
def DG (H : Hp) (a : Addr) (y : V) (r : Option V) : Prop := DGet H a y r ∨ (r = none ∧ ((Rd H a (.dK []) ∧ ∃ (k : List Key) (b : Addr), y = .ref b ∧ H b = some (.tup (k.map kV))) ∨ (Rd H a (.dT []) ∧ ∃ k : Key, y = kV k)))
theorem DG.isD {y : V} {r : Option V} (g : DG H a y r) : IsD H a := by
  rcases g with (⟨kvs, k, e, _⟩ | ⟨kvs, k, b, e, _⟩) | ⟨_, ⟨e, _⟩ | ⟨e, _⟩⟩
  · exact .inl ⟨_, e⟩
  · exact .inr ⟨_, e⟩
  · exact .inl ⟨_, e⟩
  · exact .inr ⟨_, e⟩
theorem g_in {y : V} {u : Value} {o : Option V} {Q : Value → Shared → Prop} (hu : A.units + 1 < cLine) (I : Inv X pins σ H s) (g : DG H a y o) (ry : RelV y u) (h : ∀ s', Inv X pins σ H s' → Q (.bool o.isSome) s') :
    wpAny (model X.prog X.w) A (compareOp .In u (.ref a)) Q E s := by
  rcases g with g | ⟨rfl, ⟨e, k, b, rfl, eb⟩ | ⟨e, k, rfl⟩⟩
  · exact d_in hu I g ry h
  · cases ry
    obtain ⟨hd, dd⟩ := nilK I e
    exact wpAny_in_heap (tupleKind_room_in1 hu) (key_of I.hok eb) hd dd (h _ (I.tok _))
  · obtain ⟨hd, dd⟩ := nilT I e
    exact wpAny_in_of (kV_is ry) hd dd.mapOf (h _ (I.tok _))
theorem g_notIn {y : V} {u : Value} {o : Option V} {Q : Value → Shared → Prop} (hu : A.units + 1 < cLine) (I : Inv X pins σ H s) (g : DG H a y o) (ry : RelV y u) (h : ∀ s', Inv X pins σ H s' → Q (.bool (!o.isSome)) s') :
    wpAny (model X.prog X.w) A (compareOp .NotIn u (.ref a)) Q E s := by
  rcases g with g | ⟨rfl, ⟨e, k, b, rfl, eb⟩ | ⟨e, k, rfl⟩⟩
  · exact d_notIn hu I g ry h
  · cases ry
    obtain ⟨hd, dd⟩ := nilK I e
    exact wpAny_notIn_heap (tupleKind_room_in1 hu) (key_of I.hok eb) hd dd (h _ (I.tok _))
  · obtain ⟨hd, dd⟩ := nilT I e
    exact wpAny_notIn_of (kV_is ry) hd dd.mapOf (h _ (I.tok _))
theorem g_get1 {y : V} {u : Value} {o : Option V} {Q : Value → Shared → Prop} (hu : A.units + 1 < cLine) (I : Inv X pins σ H s) (g : DG H a y o) (ry : RelV y u) (h : ∀ w' s', Inv X pins σ H s' → RelV (o.getD .non) w' → Q w' s') :
    wpAny (model X.prog X.w) A (call (.builtin "dict.get") [.ref a, u]) Q E s := by
  rcases g with g | ⟨rfl, ⟨e, k, b, rfl, eb⟩ | ⟨e, k, rfl⟩⟩
  · exact d_get1 hu I g ry h
  · cases ry
    obtain ⟨hd, dd⟩ := nilK I e
    exact call_meetsIn PySem.F.slot_dict_get dd.typeIs PySem.F.entry_dict_get (PySem.F.args_dict_get_2 _ _) (meetsH_dict_get (tupleKind (mixKind X.prog X.w)) a b hd) ⟨tupleKind_room_in1 hu, k, [], key_of I.hok eb, dd, h _ _ (I.tok _) rfl⟩
  · obtain ⟨hd, dd⟩ := nilT I e
    exact call_meetsIn PySem.F.slot_dict_get dd.typeIs PySem.F.entry_dict_get (PySem.F.args_dict_get_2 _ _) (meets_dict_get (mixKind X.prog X.w) a (kV_is ry) hd) ⟨_, dd.mapOf, h _ _ (I.tok _) rfl⟩
theorem g_get2 {y d : V} {u r : Value} {o : Option V} {Q : Value → Shared → Prop} (hu : A.units + 1 < cLine) (I : Inv X pins σ H s) (g : DG H a y o) (ry : RelV y u) (rd : RelV d r) (h : ∀ w' s', Inv X pins σ H s' → RelV (o.getD d) w' → Q w' s') :
    wpAny (model X.prog X.w) A (call (.builtin "dict.get") [.ref a, u, r]) Q E s := by
  rcases g with g | ⟨rfl, ⟨e, k, b, rfl, eb⟩ | ⟨e, k, rfl⟩⟩
  · exact d_get2 hu I g ry rd h
  · cases ry
    obtain ⟨hd, dd⟩ := nilK I e
    exact call_meetsIn PySem.F.slot_dict_get dd.typeIs PySem.F.entry_dict_get (PySem.F.args_dict_get_3 _ _ _) (meetsH_dict_get_default (tupleKind (mixKind X.prog X.w)) a b hd r) ⟨tupleKind_room_in1 hu, k, [], key_of I.hok eb, dd, h _ _ (I.tok _) rd⟩
  · obtain ⟨hd, dd⟩ := nilT I e
    exact call_meetsIn PySem.F.slot_dict_get dd.typeIs PySem.F.entry_dict_get (PySem.F.args_dict_get_3 _ _ _) (meets_dict_get_default (mixKind X.prog X.w) a (kV_is ry) hd r) ⟨_, dd.mapOf, h _ _ (I.tok _) rd⟩
end
/-- what is held at a key -/
theorem rt_dget {K : PySem.W.Frag} {O : AS} {H : Hp} (hC : Cst.tk = true → ∀ a, ¬ Cst.isC a) {v w : V} {kvs : List (Dt × Dt)} {kd : Dt} {k : Key2} (hd : Rt K O H v (.dict kvs)) (hk : Rt K O H w kd) (e' : keyQ kd = some k) (l : likeK kvs k = true) :
    ∃ a o, v = .ref a ∧ DG H a w o ∧ (∀ d, getK kvs k = some d → ∃ x, o = some x ∧ Rp K O H x d ∧ DGet H a w (some x)) ∧ (getK kvs k = none → o = none) := by
  have e := keyQ_D e'
  obtain ⟨a, rfl, hh⟩ := rt_dict hd
  cases k with
  | inl k =>
    rw [key_rp hk e]
    rcases hh with ⟨ks, r, rp⟩ | ⟨ks, r, rp⟩
    · obtain ⟨h1, h2⟩ := rpK_get rp k
      have g : DGet H a (kV k) (valV ks k) := .inl ⟨ks, k, r, rfl, rfl⟩
      refine ⟨a, valV ks k, rfl, .inl g, fun d hd => ?_, h2⟩
      obtain ⟨x, h3, h4⟩ := h1 d hd
      exact ⟨x, h3, h4, by rw [h3] at g; exact g⟩
    · obtain ⟨rfl, rfl⟩ := rpT_like rp l
      exact ⟨a, none, rfl, .inr ⟨rfl, .inr ⟨r, k, rfl⟩⟩, fun d hd => (nomatch hd), fun _ => rfl⟩
  | inr k =>
    obtain ⟨b, rfl, eb⟩ := keyT_rp hC hk e'
    rcases hh with ⟨ks, r, rp⟩ | ⟨ks, r, rp⟩
    · obtain ⟨rfl, rfl⟩ := rpK_like rp l
      exact ⟨a, none, rfl, .inr ⟨rfl, .inl ⟨r, k, b, rfl, eb⟩⟩, fun d hd => (nomatch hd), fun _ => rfl⟩
    · obtain ⟨h1, h2⟩ := rpT_get rp k
      have g : DGet H a (.ref b) (valV ks k) := .inr ⟨ks, k, b, r, rfl, eb, rfl⟩
      refine ⟨a, valV ks k, rfl, .inl g, fun d hd => ?_, h2⟩
      obtain ⟨x, h3, h4⟩ := h1 d hd
      exact ⟨x, h3, h4, by rw [h3] at g; exact g⟩
theorem some_eq {α β : Type} {g : Option α} {o : Option β} (h1 : ∀ d, g = some d → ∃ x, o = some x) (h2 : g = none → o = none) : o.isSome = g.isSome := by
  cases g with
  | none => rw [h2 rfl]; rfl
  | some d => obtain ⟨x, e⟩ := h1 d rfl; rw [e]; rfl
/-! ### subscripts, in -/
def dIxA (d k : Dt) : Option Rs := match d with
  | .dict kvs => (keyQ k).bind fun kk => if likeK kvs kk then (getK kvs kk).map .v else none
  | _ => dIx d k
def dIn : Dt → Dt → Option Rs
  | k, .dict kvs => (keyQ k).bind fun kk => if likeK kvs kk then some (.v (.bool (getK kvs kk).isSome)) else none
  | d, .list ds => if SeqAt.shaped d = true ∧ SeqAt.shaped (.list ds) = true then some (.v (.bool (ds.any fun z => PyData.eqv z d))) else none
  | d, .tuple ds => if SeqAt.shaped d = true ∧ SeqAt.shaped (.tuple ds) = true then some (.v (.bool (ds.any fun z => PyData.eqv z d))) else none
  | _, _ => none
def dNin : Dt → Dt → Option Rs
  | k, .dict kvs => (keyQ k).bind fun kk => if likeK kvs kk then some (.v (.bool (!(getK kvs kk).isSome))) else none
  | d, .list ds => if SeqAt.shaped d = true ∧ SeqAt.shaped (.list ds) = true then some (.v (.bool (!ds.any fun z => PyData.eqv z d))) else none
  | d, .tuple ds => if SeqAt.shaped d = true ∧ SeqAt.shaped (.tuple ds) = true then some (.v (.bool (!ds.any fun z => PyData.eqv z d))) else none
  | _, _ => none
section
variable {X : Cx}
theorem ov_ixA (hC : Cst.tk = true → ∀ a, ¬ Cst.isC a) (hu : X.A.units + 64 < cLine) : IxR X (rBin X.K dIxA) := by
  intro value slice pins s σ H x y v u Q I rx ry h hs
  obtain ⟨O, d, e, z, hO, hd, he, hz, q⟩ := h
  unfold dIxA at hz
  split at hz
  · simp only [Option.bind_eq_some_iff] at hz
    obtain ⟨kk, h1, h2⟩ := hz
    split at h2
    · rename_i hl
      simp only [Option.map_eq_some_iff] at h2
      obtain ⟨w, h3, rfl⟩ := h2
      obtain ⟨a, o, rfl, g, k1, k2⟩ := rt_dget hC hd he h1 hl
      obtain ⟨x', rfl, rx', g'⟩ := k1 w h3
      cases rx
      refine tail_any (ops := [.ref a, u]) (dict_typeIs I g') PySem.F.slot_dict_getitem.lookup (d_getItem (by omega) I g' ry fun w' s3 I3 rw' => ⟨x', H, I3, rw', q _ H .refl rx'⟩) hs
    · cases h2
  · exact ov_ix value slice pins s σ H x y v u Q I rx ry ⟨O, d, e, z, hO, hd, he, hz, q⟩ hs
theorem room_in_shapedT {A : Around} {d : Dt} {ds : List Dt} (sd : SeqAt.shaped d = true) (hu : A.units + 65 < cLine) : A.units + 1 + min (PyData.depthAll ds) d.depth < cLine := by
  have := SeqAt.depth_of_shaped sd
  omega
theorem ov_in (hC : Cst.tk = true → ∀ a, ¬ Cst.isC a) (hu : X.A.units + 65 < cLine) : OpR X (compareOp .In) (rBin X.K dIn) := by
  intro pins s σ H x y v u Q I rx ry h
  obtain ⟨O, d, e, z, hO, hd, he, hz, q⟩ := h
  unfold dIn at hz
  split at hz
  · simp only [Option.bind_eq_some_iff] at hz
    obtain ⟨kk, h1, h2⟩ := hz
    split at h2
    · rename_i hl
      cases h2
      obtain ⟨a, o, rfl, g, k1, k2⟩ := rt_dget hC he hd h1 hl
      cases ry
      refine g_in (by omega) I g rx fun s' I' => ?_
      rw [some_eq (fun d' hg => (k1 d' hg).elim fun x' h4 => ⟨x', h4.1⟩) k2]
      exact ⟨.bl _, H, I', rfl, q _ H .refl (.bl _)⟩
    · cases h2
  · split at hz
    · rename_i hs
      cases hz
      exact op_inD hu pins s σ H x y v u Q I rx ry ⟨d, _, rt_dp hd (SeqAt.canLay_of_shaped hs.1), rt_dp he (SeqAt.canLay_of_shaped hs.2), hs.1, hs.2, q _ H .refl (.bl _)⟩
    · cases hz
  · split at hz
    · rename_i hs
      cases hz
      obtain ⟨as, r1⟩ := Dp.reads I d x v (rt_dp hd (SeqAt.canLay_of_shaped hs.1)) rx
      obtain ⟨bs, r2⟩ := Dp.reads I _ y u (rt_dp he (SeqAt.canLay_of_shaped hs.2)) ry
      exact SeqAt.in_tuple_reads r2 r1 (SeqAt.canLay_of_shaped hs.2) (SeqAt.canLay_of_shaped hs.1) (room_in_shapedT hs.1 hu) ⟨.bl _, H, I, rfl, q _ H .refl (.bl _)⟩
    · cases hz
  · cases hz
theorem ov_nin (hC : Cst.tk = true → ∀ a, ¬ Cst.isC a) (hu : X.A.units + 65 < cLine) : OpR X (compareOp .NotIn) (rBin X.K dNin) := by
  intro pins s σ H x y v u Q I rx ry h
  obtain ⟨O, d, e, z, hO, hd, he, hz, q⟩ := h
  unfold dNin at hz
  split at hz
  · simp only [Option.bind_eq_some_iff] at hz
    obtain ⟨kk, h1, h2⟩ := hz
    split at h2
    · rename_i hl
      cases h2
      obtain ⟨a, o, rfl, g, k1, k2⟩ := rt_dget hC he hd h1 hl
      cases ry
      refine g_notIn (by omega) I g rx fun s' I' => ?_
      rw [some_eq (fun d' hg => (k1 d' hg).elim fun x' h4 => ⟨x', h4.1⟩) k2]
      exact ⟨.bl _, H, I', rfl, q _ H .refl (.bl _)⟩
    · cases h2
  · split at hz
    · rename_i hs
      cases hz
      exact op_notInD hu pins s σ H x y v u Q I rx ry ⟨d, _, rt_dp hd (SeqAt.canLay_of_shaped hs.1), rt_dp he (SeqAt.canLay_of_shaped hs.2), hs.1, hs.2, q _ H .refl (.bl _)⟩
    · cases hz
  · split at hz
    · rename_i hs
      cases hz
      obtain ⟨as, r1⟩ := Dp.reads I d x v (rt_dp hd (SeqAt.canLay_of_shaped hs.1)) rx
      obtain ⟨bs, r2⟩ := Dp.reads I _ y u (rt_dp he (SeqAt.canLay_of_shaped hs.2)) ry
      exact SeqAt.notIn_tuple_reads r2 r1 (SeqAt.canLay_of_shaped hs.2) (SeqAt.canLay_of_shaped hs.1) (room_in_shapedT hs.1 hu) ⟨.bl _, H, I, rfl, q _ H .refl (.bl _)⟩
    · cases hz
  · cases hz
end
/-! ### methods -/
/-- the value is of that builtin type, whatever is known of it -/
def TyS (X : Cx) (T : String) (x : V) (H : Hp) : Prop := ∀ pins s σ v, Inv X pins σ H s → RelV x v → s.TypeIs v T ∧ ∀ a, v = .ref a → ∃ ob, s.heap.get? a = some ob ∧ ob.dict = none
def tyN : Dt → Option String
  | .int _ => some "int"
  | .str _ => some "str"
  | .list _ => some "list"
  | .dict _ => some "dict"
  | _ => none
theorem tyN_rt {X : Cx} {O : AS} {H : Hp} {v : V} {d : Dt} {T : String} (h : Rt X.K O H v d) (e : tyN d = some T) : TyS X T v H := by
  intro pins s σ u I ru
  cases d with
  | int i => rw [rt_int h] at ru; cases e; exact tyV_is I (x := .int i) ru rfl
  | str x => rw [rt_str h] at ru; cases e; exact tyV_is I (x := .str x) ru rfl
  | list xs =>
    obtain ⟨a, ys, rfl, hs, _⟩ := rt_ls h
    cases e
    exact tyV_is I ru (.inl ⟨rfl, ys, hs.sq⟩)
  | dict kvs =>
    obtain ⟨a, rfl, hh⟩ := rt_dict h
    cases e
    have d : IsD H a := by
      rcases hh with ⟨ks, r, _⟩ | ⟨ks, r, _⟩
      · exact .inl ⟨ks, r⟩
      · exact .inr ⟨ks, r⟩
    cases ru
    obtain ⟨t1, t2, _⟩ := isD_at I d
    exact ⟨t1, t2⟩
  | _ => cases e
section
variable {X : Cx} {o e : Expr} {es : List Expr} {to : TE} {t : TA} {name : Str} {apos cpos : Pos} {T id : String} {r : V → List V → Hp → VK → Prop}
def tBS (X : Cx) (T : String) (r : V → List V → Hp → VK → Prop) (to : TE) (t : TA) : TE := fun σ H Q => to σ H fun x H1 => TyS X T x H1 ∧ t σ H1 fun xs H2 => r x xs H2 Q
theorem pe_bs0 (pa : PlainAttrs T) (slot : Slot T name id) (hty : typeOf (.builtin id) = pure (.type "method_descriptor")) (hm : MtR X id r) (ho : PE X o to)
    (hbase : attributeBase o name X.env (eval o X.env) = eval o X.env := by rfl) (hline : (apos.endLine == cpos.line) = true := by rfl) : PE X (.Call (.Attribute o name apos) [] [] cpos) (tBS X T r to tNil) := by
  refine ⟨fun pins s σ H Q I h => ?_⟩
  refine wpAny_Call_method0_late hbase hline (thn (ho.run pins s σ H _ I h) fun v s1 ⟨x, H1, I1, r1, ty, q1⟩ => ?_)
  obtain ⟨h1, h2⟩ := ty pins s1 σ v I1 r1
  exact ⟨T, id, pa, slot, hty, h1, h2, Calls.callWith_builtin rfl (PySem.evalArgs_none (hm pins s1 σ H1 x [] v [] Q I1 r1 .nil q1))⟩
theorem pe_bs (pa : PlainAttrs T) (slot : Slot T name id) (hty : typeOf (.builtin id) = pure (.type "method_descriptor")) (hm : MtR X id r) (ho : PE X o to) (ha : PA X (e :: es) t)
    (hbase : attributeBase o name X.env (eval o X.env) = eval o X.env := by rfl)
    (hfew : ((backTo cpos (starEach (e :: es) X.env)).all (fun x => !x.1) && (backToKw cpos (keywordEach [] X.env)).all (fun x => x.1.isSome)
      && decide ((e :: es).length + ([] : List Keyword).length + (if ([] : List Keyword).isEmpty then 0 else 1) < 30)) = true := by rfl)
    (hline : (apos.endLine == cpos.line) = true := by rfl) (hs : starEach (e :: es) X.env = (false, eval e X.env) :: starEach es X.env := by rfl) (hplain : (backTo cpos (starEach es X.env)).any (·.1) = false := by rfl) :
    PE X (.Call (.Attribute o name apos) (e :: es) [] cpos) (tBS X T r to t) := by
  refine ⟨fun pins s σ H Q I h => ?_⟩
  refine wpAny_Call_method_late hbase hfew hline rfl (thn (ho.run pins s σ H _ I h) fun v s1 ⟨x, H1, I1, r1, ty, q1⟩ => ?_)
  obtain ⟨h1, h2⟩ := ty pins s1 σ v I1 r1
  refine ⟨T, id, pa, slot, hty, h1, h2, ?_⟩
  have hA := ha.run cpos pins s1 σ H1 _ I1 q1
  rw [hs] at hA ⊢
  refine Calls.callWith_builtin (by show (false || (backTo cpos (starEach es X.env)).any (·.1)) = false; rw [hplain] <;> rfl) (Calls.evalArgs_plain ?_)
  exact thn hA fun us s2 ⟨vs, H2, I2, r2, q2⟩ => hm pins s2 σ H2 x vs v us Q I2 r1 r2 q2
end
/-- a method that reads -/
def mMeth (T : String) (f : Dt → List Dt → Option Rs) (mo : M Rs) (ma : M (List Rs)) : M Rs := fun τ => (mo τ).bind fun p => (deref p.1 p.2).bind fun d0 => if tyN d0 = some T then
  (ma p.2).bind fun q => (deref p.1 q.2).bind fun d => (derefs q.1 q.2).bind fun ds => (f d ds).map fun z => (z, q.2) else none
def rMeth (K : PySem.W.Frag) (f : Dt → List Dt → Option Rs) : V → List V → Hp → VK → Prop := fun x xs H Q => ∃ O d ds z, (∀ a, O a → H a ≠ none) ∧ Rt K O H x d ∧ Rts K O H xs ds ∧ f d ds = some z ∧ ∀ v H', Ext nO H H' → Res K O H z v H' → Q v H'
theorem mMeth_read {X : Cx} {T : String} {f : Dt → List Dt → Option Rs} {mo : M Rs} {ma : M (List Rs)} (σ : L2.St) (H : Hp) (Q : VK) (h : tOf X.K (mMeth T f mo ma) σ H Q) : tBS X T (rMeth X.K f) (tOf X.K mo) (aOf X.K ma) σ H Q := by
  obtain ⟨E, τ, r, τ', S, hm, k⟩ := h
  simp only [mMeth, Option.bind_eq_some_iff] at hm
  obtain ⟨⟨ra, τ1⟩, h1, d0, h2, h3⟩ := hm
  split at h3
  · rename_i ht
    simp only [Option.bind_eq_some_iff, Option.map_eq_some_iff] at h3
    obtain ⟨⟨rs, τ2⟩, h4, d, h5, ds, h6, z, h7, h8⟩ := h3
    cases h8
    refine ⟨E, τ, ra, τ1, S, h1, fun x H1 P1 => ⟨tyN_rt (P1.read h2) ht, E, τ1, rs, _, P1.srep, h4, fun vs H2 P2 => ?_⟩⟩
    have w := (P1.wait.on (H2 := H2) P2).read P2.rep (by rw [deref_keep]; exact h5)
    exact ⟨Av E τ2 σ, d, ds, r, fun a q => P2.rep.av_at q, w, P2.res.read P2.rep h6, h7, fun v H3 e3 q => k v H3 (P1.b.post (postA_step P2 e3 q))⟩
  · cases h3
def getM : Dt → List Dt → Option Rs
  | .dict kvs, [k] => (keyQ k).bind fun kk => if likeK kvs kk then some (.v ((getK kvs kk).getD .none)) else none
  | .dict kvs, [k, x] => (keyQ k).bind fun kk => if likeK kvs kk then (match getK kvs kk with
    | some d => some (.v d)
    | none => match x with
      | .list _ => none
      | .dict _ => none
      | _ => some (.v x)) else none
  | _, _ => none
section
variable {X : Cx} {o e : Expr} {es : List Expr} {mo : M Rs} {ma : M (List Rs)} {name : Str} {apos cpos : Pos} {T id : String} {f : Dt → List Dt → Option Rs}
theorem se_meth (pa : PlainAttrs T) (slot : Slot T name id) (hty : typeOf (.builtin id) = pure (.type "method_descriptor")) (hm : MtR X id (rMeth X.K f)) (ho : SE X o mo) (ha : SA X (e :: es) ma)
    (hbase : attributeBase o name X.env (eval o X.env) = eval o X.env := by rfl)
    (hfew : ((backTo cpos (starEach (e :: es) X.env)).all (fun x => !x.1) && (backToKw cpos (keywordEach [] X.env)).all (fun x => x.1.isSome)
      && decide ((e :: es).length + ([] : List Keyword).length + (if ([] : List Keyword).isEmpty then 0 else 1) < 30)) = true := by rfl)
    (hline : (apos.endLine == cpos.line) = true := by rfl) (hs : starEach (e :: es) X.env = (false, eval e X.env) :: starEach es X.env := by rfl) (hplain : (backTo cpos (starEach es X.env)).any (·.1) = false := by rfl) :
    SE X (.Call (.Attribute o name apos) (e :: es) [] cpos) (mMeth T f mo ma) := ⟨peW (pe_bs pa slot hty hm ho.pe ha.pa hbase hfew hline hs hplain) mMeth_read⟩
theorem rt_flat {K : PySem.W.Frag} {O : AS} {H : Hp} {v : V} {d : Dt} (h : Rt K O H v d) (n1 : ∀ xs, d ≠ .list xs) (n2 : ∀ xs, d ≠ .dict xs) : Rp K O H v d := by
  cases h with
  | rp h => exact h
  | lst _ _ => exact absurd rfl (n1 _)
  | dK _ _ => exact absurd rfl (n2 _)
  | dT _ _ => exact absurd rfl (n2 _)
theorem mv_get (hC : Cst.tk = true → ∀ a, ¬ Cst.isC a) (hu : X.A.units + 64 < cLine) : MtR X "dict.get" (rMeth X.K getM) := by
  intro pins s σ H x xs v us Q I rx rs h
  obtain ⟨O, d, ds, z, hO, hd, ha, hz, q⟩ := h
  unfold getM at hz
  split at hz
  · simp only [Option.bind_eq_some_iff] at hz
    obtain ⟨kk, h1, h2⟩ := hz
    split at h2
    · rename_i hl
      cases h2
      obtain ⟨y, rfl, ry⟩ := ha.one
      obtain ⟨a, o, rfl, g, k1, k2⟩ := rt_dget hC hd ry h1 hl
      cases rx
      obtain ⟨u, rfl, ru⟩ := rs.one
      refine g_get1 (by omega) I g ru fun w' s' I' rw' => ⟨_, H, I', rw', q _ H .refl ?_⟩
      show Rp _ _ _ _ _
      cases hg : getK _ kk with
      | none => rw [k2 hg]; exact .non
      | some d' => obtain ⟨x', h4, h5, _⟩ := k1 d' hg; rw [h4]; exact h5
    · cases h2
  · simp only [Option.bind_eq_some_iff] at hz
    obtain ⟨kk, h1, h2⟩ := hz
    split at h2
    · rename_i kvs kd xd hl
      obtain ⟨y, x2, rfl, ry, r2⟩ := ha.two
      obtain ⟨a, o, rfl, g, k1, k2⟩ := rt_dget hC hd ry h1 hl
      cases rx
      obtain ⟨u, w2, rfl, ru, rw2⟩ := rs.two
      refine g_get2 (by omega) I g ru rw2 fun w' s' I' rw' => ⟨_, H, I', rw', ?_⟩
      split at h2
      · rename_i d' hg
        cases h2
        obtain ⟨x', h4, h5, _⟩ := k1 d' hg
        rw [h4]
        exact q _ H .refl h5
      · rename_i hg
        rw [k2 hg]
        split at h2
        · cases h2
        · cases h2
        · rename_i n1 n2
          cases h2
          exact q _ H .refl (rt_flat r2 n1 n2)
    · cases h2
  · cases hz
end
end Iv
set_option Elab.async false
set_option linter.all false
set_option maxRecDepth 100000
set_option maxHeartbeats 2000000
namespace Iv
open PySem L2 PyProof.Rows
variable [Cst]
/-! ### a dict is written -/
theorem upd_upd {H : Hp} {a : Addr} {o u : HO} : upd (upd H a o) a u = upd H a u := by
  funext b
  by_cases h : b = a
  · subst h; rw [upd_same, upd_same]
  · rw [upd_ne h, upd_ne h, upd_ne h]
/-- the heap behind a[y] = v, nothing's kind being free -/
def DP (H : Hp) (a : Addr) (y v : V) (H' : Hp) : Prop := DPut H a y v H' ∨
  (∃ (k : List Key) (b : Addr), H a = some (.dK []) ∧ y = .ref b ∧ H b = some (.tup (k.map kV)) ∧ H' = upd H a (.dT [(k, v)])) ∨ ∃ k : Key, H a = some (.dT []) ∧ y = kV k ∧ H' = upd H a (.dK [(k, v)])
section
variable {X : Cx} {pins : List (Addr × Obj)} {σ : L2.St} {H H' : Hp} {s : Shared} {a b : Addr} {A : Around} {E : Value → Shared → Prop} {y v : V} {u r : Value}
theorem putK_nil {κ : Type} [DecidableEq κ] {k : κ} : putK ([] : List (κ × V)) k v = [(k, v)] := rfl
theorem DP.red (I : Inv X pins σ H s) (g : DP H a y v H') : ∃ H1, Inv X pins σ H1 s ∧ DPut H1 a y v H' := by
  rcases g with g | ⟨k, b, e, rfl, eb, rfl⟩ | ⟨k, e, rfl, rfl⟩
  · exact ⟨H, I, g⟩
  · have nb : b ≠ a := fun z => by rw [z, e] at eb; cases eb
    exact ⟨_, toT I e, .inr ⟨[], k, b, upd_same, rfl, by rw [upd_ne nb]; exact eb, by decide, by rw [upd_upd]; rfl⟩⟩
  · exact ⟨_, toK I e, .inl ⟨[], k, upd_same, rfl, by decide, by rw [upd_upd]; rfl⟩⟩
theorem g_setItem {Q : Unit → Shared → Prop} (hu : A.units + 1 < cLine) (I : Inv X pins σ H s) (g : DP H a y v H') (ry : RelV y u) (rv : RelV v r) (h : ∀ s', Inv X pins σ H' s' → Q () s') :
    wpAny (model X.prog X.w) A (setItem (.ref a) u r) Q E s := by
  obtain ⟨H1, I1, g1⟩ := g.red I
  exact d_setItem hu I1 g1 ry rv h
theorem d_dictSet {Q : Unit → Shared → Prop} (hu : A.units + 1 < cLine) (I : Inv X pins σ H s) (g : DPut H a y v H') (ry : RelV y u) (rv : RelV v r) (h : ∀ s', Inv X pins σ H' s' → Q () s') :
    wpAny (model X.prog X.w) A (dictSet a u r) Q E s := by
  rcases g with ⟨kvs, k, e, ey, l, eH⟩ | ⟨kvs, k, b, e, ey, eb, l, eH⟩
  · subst ey eH
    obtain ⟨z, hd, vs, rel, dd⟩ := dk_of I.hok e
    have hz : vs.length ≤ sizeLine := by rw [← rel.length]; exact z
    have hl : (putK kvs k v).length ≤ sizeLine := by have := length_putK kvs k v; omega
    refine wpAny_dictSet_pairs (hsz := hz) (kV_is ry) dd fun h' dd' hs => h _ ?_
    have he : ∃ q, h'.get? a = some q := let ⟨q, _, _, hq, _⟩ := dd'; ⟨q, hq⟩
    exact d_write I (by rw [e]; exact True.intro) hs he (dk_new hl hd (rel.put k rv) dd')
  · subst ey eH
    cases (show u = Value.ref b from ry)
    obtain ⟨z, hd, xs, rel, dd⟩ := dt_of I.hok e
    have hz : xs.length ≤ sizeLine := by rw [← Paired.length rel]; exact z
    have hl : (putK kvs k v).length ≤ sizeLine := by have := length_putK kvs k v; omega
    refine wpAny_dictSet_heap (hsz := hz) (knd := tupleKind (mixKind X.prog X.w)) (by show A.units < cLine; omega) (key_of I.hok eb) dd fun h' dd' hs => h _ ?_
    obtain ⟨q, es, ep, hq, h2, h3, h4, _, h5⟩ := dd'
    refine d_write I (by rw [e]; exact True.intro) hs ⟨q, hq⟩ ⟨hl, hd, _, (rel.put k eb rv).keeps fun c ys ec => ?_, q, es, ep, hq, h2, h3, h4, h5⟩
    rw [upd_ne (ne_of ec e (fun z => nomatch z))]
    exact ec
theorem g_dictSet {Q : Unit → Shared → Prop} (hu : A.units + 1 < cLine) (I : Inv X pins σ H s) (g : DP H a y v H') (ry : RelV y u) (rv : RelV v r) (h : ∀ s', Inv X pins σ H' s' → Q () s') :
    wpAny (model X.prog X.w) A (dictSet a u r) Q E s := by
  obtain ⟨H1, I1, g1⟩ := g.red I
  exact d_dictSet hu I1 g1 ry rv h
end
theorem putD_len (kvs : List (Dt × Dt)) (kd : Dt) (k : Key2) (v : Dt) : (putD kvs kd k v).length ≤ kvs.length + 1 := by
  unfold putD
  split
  · rw [List.length_map]; omega
  · rw [List.length_append, List.length_singleton]; exact Nat.le_refl _
/-- an own dict is written -/
theorem own_put {K : PySem.W.Frag} {O : AS} {H : Hp} (hC : Cst.tk = true → ∀ a, ¬ Cst.isC a) {a : Addr} {w v : V} {kvs : List (Dt × Dt)} {kd d : Dt} {k : Key2} (hd : Own K O H a (.dict kvs)) (ha : O a) (hk : Rt K O H w kd) (e' : keyQ kd = some k) (l : likeK kvs k = true)
    (hz : kvs.length < sizeLine) (rv : Rp K O H v d) : ∃ o, DP H a w v (upd H a o) ∧ Own K O (upd H a o) a (.dict (putD kvs kd k d)) := by
  have nt := hd.notup
  have e := keyQ_D e'
  cases k with
  | inl k =>
    rw [key_rp hk e, keyD_inl e]
    cases hd with
    | dK r rp => exact ⟨_, .inl (.inl ⟨_, k, r, rfl, by rw [rpK_len rp]; exact hz, rfl⟩), .dK upd_same (rpK_put (rpK_put2 rp k rv) ha nt)⟩
    | dT r rp =>
      obtain ⟨rfl, rfl⟩ := rpT_like rp l
      exact ⟨_, .inr (.inr ⟨k, r, rfl, rfl⟩), .dK upd_same (rpK_put (.cons rv .nil) ha nt)⟩
  | inr k =>
    obtain ⟨b, rfl, eb⟩ := keyT_rp hC hk e'
    rw [keyD_inr e]
    cases hd with
    | dT r rp => exact ⟨_, .inl (.inr ⟨_, k, b, r, rfl, eb, by rw [rpT_len rp]; exact hz, rfl⟩), .dT upd_same (rpT_put (rpT_put2 rp k rv) ha nt)⟩
    | dK r rp =>
      obtain ⟨rfl, rfl⟩ := rpK_like rp l
      exact ⟨_, .inr (.inl ⟨k, b, r, rfl, eb, rfl⟩), .dT upd_same (rpT_put (.cons rv .nil) ha nt)⟩
/-! ### x[i] = e -/
def setD : Dt → Dt → Dt → Option Dt
  | .list xs, .int k, d => (ixN xs.length k).map fun j => .list (xs.set j d)
  | .dict kvs, kd, d => (keyQ kd).bind fun k => if likeK kvs k && decide (kvs.length < sizeLine) then some (.dict (putD kvs kd k d)) else none
  | _, _, _ => none
def rSetM (K : PySem.W.Frag) : TSet := fun o i v H Q => ∃ O a d kd vd d', o = .ref a ∧ O a ∧ (∀ a, O a → H a ≠ none) ∧ Own K O H a d ∧ Rt K O H i kd ∧ Rp K O H v vd ∧ setD d kd vd = some d' ∧ ∀ ob, Own K O (upd H a ob) a d' → Q (upd H a ob)
theorem set_own {X : Cx} (hC : Cst.tk = true → ∀ a, ¬ Cst.isC a) (hu : X.A.units + 64 < cLine) : PSet X (rSetM X.K) := by
  intro pins s σ H o i v ov iv u Q I ro ri rv h
  obtain ⟨O, a, d, kd, vd, d', rfl, ha, hO, hd, hk, hv, hs, q⟩ := h
  unfold setD at hs
  split at hs
  · simp only [Option.map_eq_some_iff] at hs
    obtain ⟨j, h1, rfl⟩ := hs
    cases hd with
    | lst r rp =>
      rw [rt_int hk] at ri
      refine set_list pins s σ H _ _ v ov iv u Q I ro ri rv ⟨a, _, _, j, rfl, rfl, r, by rw [rp.length]; exact h1, q _ (.lst upd_same (rpL_put (rp.set hv j) ha fun xs z => ?_))⟩
      rw [r] at z; cases z
  · simp only [Option.bind_eq_some_iff] at hs
    obtain ⟨k, h1, h2⟩ := hs
    split at h2
    · rename_i hl
      cases h2
      obtain ⟨l1, l2⟩ := Bool.and_eq_true_iff.mp hl
      obtain ⟨ob, g, w⟩ := own_put hC hd ha hk h1 l1 (of_decide_eq_true l2) hv
      cases ro
      exact g_setItem (by omega) I g ri rv fun s' I' => ⟨_, I', q _ w⟩
    · cases h2
  · cases hs
/-- the slot's thing, written -/
def putI (i : Nat) (k d : Dt) (τ : Tau) : Option Tau := match τ[i]? with
  | some (.ow io c) => (setD c k d).map fun c' => τ.set i (.ow io c')
  | _ => none
def isOw (i : Nat) (τ : Tau) : Bool := match τ[i]? with
  | some (.ow _ _) => true
  | _ => false
theorem isOw_iff {i : Nat} {τ : Tau} (h : isOw i τ = true) : ∃ io d, τ[i]? = some (.ow io d) := by
  unfold isOw at h
  split at h
  · rename_i io d e; exact ⟨io, d, e⟩
  · cases h
def mSetIt (i : Nat) (mi me : M Rs) : MS := fun τ => (me τ).bind fun p => (share p.1 p.2).bind fun q => if isOw i q.2 then (mi q.2).bind fun r => (deref r.1 r.2).bind fun k => (putI i k q.1 r.2).map fun τ' => (.nx, τ') else none
def dIxO : Dt → Dt → Option Dt
  | .list xs, .int i => atI xs i
  | .dict kvs, k => (keyQ k).bind fun kk => if likeK kvs kk then getK kvs kk else none
  | _, _ => none
/-- x[i] op= e -/
def mAugIt (i : Nat) (f : Dt → Dt → Option Dt) (mi me : M Rs) : MS := fun τ => match τ[i]? with
  | some (.ow _ _) => (mi τ).bind fun r => match r.1, r.2[i]? with
    | .v k, some (.ow _ c) => (match dIxO c k with
      | some d0 => (me r.2).bind fun p => (deref p.1 p.2).bind fun d => (f d0 d).bind fun z => (putI i k z p.2).map fun τ' => (.nx, τ')
      | _ => none)
    | _, _ => none
  | _ => none
section
variable {K : PySem.W.Frag} {E : AS} {τ τ' τ1 τ2 : Tau} {σ : L2.St} {H H1 H2 : Hp} {v w : V} {d kd : Dt} {i : Nat} {a : Addr}
theorem Rt.dn {O O' : AS} (h : Rt K O H v d) (hO : ∀ a, O' a → O a) : Rt K O' H v d := h.mono (Ext.refl (O := O')).wk (fun a q => .inl (hO a q)) fun _ _ => .inl fun _ r _ => r
/-- the last step of a store into a slot's thing -/
theorem put_end {Q : Hp → Prop} (S : SRep K E τ σ H) (h : putI i kd d τ = some τ') (hv : σ[i]? = some (some (.ref a))) (hk : Rt K (Av E τ σ) H w kd) (rv : Rp K (Av E τ σ) H v d) (q : ∀ H', PostB K E τ σ H τ' H' → Q H') : rSetM K (.ref a) w v H Q := by
  unfold putI at h
  split at h
  · rename_i io c e0
    simp only [Option.map_eq_some_iff] at h
    obtain ⟨c', h7, rfl⟩ := h
    obtain ⟨a', y1, y2, y3⟩ := S.ow i io c e0
    rw [hv] at y1
    cases y1
    exact ⟨Av E τ σ, a, c, kd, d, c', rfl, .inr ⟨i, _, e0, rfl, hv⟩, fun b z => S.av_at z, y3, hk, rv, h7, fun ob w' => q _ (S.mut e0 hv w')⟩
  · cases h
end
theorem get_list {X : Cx} : PGet X (fun o i H Q => ∃ p xs k v, o = .ref p ∧ i = .int k ∧ SqL X.K H p xs ∧ atI xs k = some v ∧ Q v H) := by
  intro pins s σ H x y v u Q I rx ry h
  obtain ⟨p, xs, i, z, rfl, rfl, hq, he, q⟩ := h
  cases rx
  obtain ⟨t, rfl⟩ := ry
  obtain ⟨its, r, pl, hz⟩ := I.list hq
  obtain ⟨j, h1, h2, h3, h4, h5⟩ := atI_get he
  obtain ⟨w, ew, rw'⟩ := r.get h2
  have hl := r.length
  have hn := line63
  have fin : EP X pins σ Q w s := ⟨z, H, I, rw', q⟩
  by_cases h0 : 0 ≤ i
  · have hj : i.toNat = j := by
      rw [seqIndex_of h0 h5] at h1
      exact Option.some.inj h1
    exact wpAny_getItem_list pl.isList h0 (by omega) (by rw [hj]; simpa using ew) fin
  · have hj : (i + (its.toArray.size : Int)).toNat = j := by
      rw [seqIndex_neg (by omega) h4] at h1
      rw [List.size_toArray, ← hl]
      exact Option.some.inj h1
    exact wpAny_getItem_list_neg pl.isList (by omega) (by rw [List.size_toArray] <;> omega) (by omega) (by rw [hj]; simpa using ew) fin
def rGetM (K : PySem.W.Frag) : V → V → Hp → VK → Prop := fun o i H Q => ∃ O c k d0, Rt K O H o c ∧ Rt K O H i k ∧ dIxO c k = some d0 ∧ ∀ v, Rp K O H v d0 → Q v H
theorem get_own {X : Cx} (hC : Cst.tk = true → ∀ a, ¬ Cst.isC a) (hu : X.A.units + 64 < cLine) : PGet X (rGetM X.K) := by
  intro pins s σ H o i ov iv Q I ro ri h
  obtain ⟨O, c, k, d0, hc, hk, hz, q⟩ := h
  unfold dIxO at hz
  split at hz
  · obtain ⟨a, xs, rfl, ha, ra⟩ := rt_list hc
    obtain ⟨wv, h2, h3⟩ := atI_rp ra hz
    rw [rt_int hk] at ri
    exact get_list pins s σ H _ _ ov iv Q I ro ri ⟨a, xs, _, wv, rfl, rfl, ha, h2, q wv h3⟩
  · simp only [Option.bind_eq_some_iff] at hz
    obtain ⟨kk, h1, h2⟩ := hz
    split at h2
    · rename_i hl
      obtain ⟨a, o, rfl, g, k1, k2⟩ := rt_dget hC hc hk h1 hl
      obtain ⟨x', rfl, rx', g'⟩ := k1 _ h2
      cases ro
      exact d_getItem (by omega) I g' ri fun w' s3 I3 rw' => ⟨x', H, I3, rw', q x' rx'⟩
    · cases h2
  · cases hz
section
variable {X : Cx} {o ix e : Expr} {mi me : M Rs} {i : Nat} {x : Str} {pos p p2 : Pos}
theorem ss_setIt (hC : Cst.tk = true → ∀ a, ¬ Cst.isC a) (hu : X.A.units + 64 < cLine) (hN : X.N[i]? = some x) (hv : Vis X.env.scope x) (hi : SE X ix mi) (he : SE X e me)
    (hd : (x == ("__debug__" : Str)) = false := by decide) (hcd : (x == ("__classdict__" : Str)) = false := by decide)
    (hs : swapsWithSole [.Subscript (.Name x p) ix p2] e pos.line X.env = pure false := by rfl) (hw : swappedStores [.Subscript (.Name x p) ix p2] e X.env = pure none := by rfl)
    (h1 : (assignEach [.Subscript (.Name x p) ix p2] X.env).map (·.2) = [assign (.Subscript (.Name x p) ix p2) X.env] := by rfl)
    (ha : ∀ v, assign (.Subscript (.Name x p) ix p2) X.env v = (do
      let ov ← holding [v] (eval (.Name x p) X.env)
      let iv ← holding [v, ov] (eval ix X.env)
      standAt p2
      holding [v, ov, iv] (setItem ov iv v)
      release [v, ov, iv] []) := by intro _; rfl) : SS X (.Assign [.Subscript (.Name x p) ix p2] e pos) (mSetIt i mi me) := by
  refine ⟨psW (ps_asg he.pe (pg_sub (pe_var hN hv hd hcd) hi.pe (set_own hC hu) ha) hs hw h1) fun D σ H h => ?_⟩
  obtain ⟨E, τ, o, τ', S, hm, k⟩ := h
  simp only [mSetIt, Option.bind_eq_some_iff] at hm
  obtain ⟨⟨re, τ1⟩, h1, ⟨d, τ2⟩, h2, hm⟩ := hm
  split at hm
  · rename_i how
    simp only [Option.bind_eq_some_iff, Option.map_eq_some_iff] at hm
    obtain ⟨⟨ri, τ3⟩, h3, kd, h4, τ4, h5, h6⟩ := hm
    cases h6
    obtain ⟨io, c, e0⟩ := isOw_iff how
    refine ⟨E, τ, re, τ1, S, h1, fun v H1 P0 => ?_⟩
    have P1 := P0.share h2
    obtain ⟨a, hva, _, _⟩ := P1.srep.ow i io c e0
    refine ⟨_, hva, E, τ2, ri, τ3, P1.srep, h3, fun w H2 P2 => ?_⟩
    have wt : Wait X.K E τ3 σ H2 (.v d) v := P1.pendB P2.b
    exact put_end P2.srep h5 hva (P2.read h4) wt fun H3 B3 => k _ _ (((P1.b.comp P2.b).comp B3).s) B3.rep
  · cases hm
theorem ss_augIt {op : Operator} {f : Dt → Dt → Option Dt} (hC : Cst.tk = true → ∀ a, ¬ Cst.isC a) (hu : X.A.units + 64 < cLine) (hN : X.N[i]? = some x) (hv : Vis X.env.scope x) (hi : SE X ix mi) (he : SE X e me) (ho : PIp X op (rAug X.K f))
    (hd : (x == ("__debug__" : Str)) = false := by decide) (hcd : (x == ("__classdict__" : Str)) = false := by decide)
    (ha : ∀ ov iv new, augStore ix ov iv new = (do holding [new, ov, iv] (setItem ov iv new); release [new, ov, iv] []; pure .next) := by intros; rfl) : SS X (.AugAssign (.Subscript (.Name x p) ix p2) op e pos) (mAugIt i f mi me) := by
  refine ⟨psW (ps_augS (pe_var hN hv hd hcd) hi.pe (get_own hC hu) he.pe ho (set_own hC hu) ha) fun D σ H h => ?_⟩
  obtain ⟨E, τ, o, τ', S, hm, k⟩ := h
  unfold mAugIt at hm
  split at hm
  · rename_i io0 c0 e0
    simp only [Option.bind_eq_some_iff] at hm
    obtain ⟨⟨ri, τ1⟩, h1, hm⟩ := hm
    split at hm
    · rename_i kd io c er e1
      have er' : ri = .v kd := er
      subst er'
      split at hm
      · rename_i d0 hz
        simp only [Option.bind_eq_some_iff, Option.map_eq_some_iff] at hm
        obtain ⟨⟨re, τ2⟩, h2, d, h3, z, h4, τ3, h5, h6⟩ := hm
        cases h6
        obtain ⟨a, hva, _, _⟩ := S.ow i io0 c0 e0
        refine ⟨_, hva, E, τ, .v kd, τ1, S, h1, fun w H1 P1 => ?_⟩
        obtain ⟨a', hva', _, hc⟩ := P1.srep.ow i io c e1
        rw [hva] at hva'
        cases hva'
        refine ⟨Av E τ1 σ, c, kd, d0, hc.rt, .rp P1.res.2, hz, fun w0 rw0 => ⟨E, τ1, re, τ2, P1.srep, h2, fun v H2 P2 => ?_⟩⟩
        have wk : Wait X.K E τ2 σ H2 (.v kd) w := P1.pendB P2.b
        have w0' : Wait X.K E τ2 σ H2 (.v d0) w0 := Post.pendB (K := X.K) (E := E) (τ := τ1) (τ1 := τ1) (H := H1) (r := .v d0) ⟨.refl, .refl, P1.srep, rw0⟩ P2.b
        refine ⟨Av E τ2 σ, d0, d, z, fun a q => P2.srep.av_at q, .rp w0', P2.read h3, h4, fun u H3 e3 q3 => ?_⟩
        have P3 := post_step P2.srep e3 (r := .v z) q3
        have wk3 : Wait X.K E τ2 σ H3 (.v kd) w := Post.pendB (K := X.K) (E := E) (τ := τ2) (τ1 := τ2) (H := H2) (r := .v kd) ⟨.refl, .refl, P2.srep, wk⟩ P3.b
        exact put_end P3.srep h5 hva (.rp wk3) P3.res.2 fun H4 B4 => k _ _ ((((P1.b.comp P2.b).comp P3.b).comp B4).s) B4.rep
      · cases hm
    · cases hm
  · cases hm
end
/-! ### methods that change a slot's thing -/
def mMethS (i : Nat) (T : String) (f : Dt → List Dt → Option (Dt × Dt)) (ma : M (List Rs)) : M Rs := fun τ => match τ[i]? with
  | some (.ow _ c0) => if tyN c0 = some T then (ma τ).bind fun p => (shareAll p.1 p.2).bind fun q => (match q.2[i]? with
    | some (.ow io c) => (f c q.1).map fun z => (.v z.2, q.2.set i (.ow io z.1))
    | _ => none) else none
  | _ => none
def rMutM (K : PySem.W.Frag) (f : Dt → List Dt → Option (Dt × Dt)) : V → List V → Hp → VK → Prop := fun x xs H Q => ∃ O a c ds c' rd, x = .ref a ∧ O a ∧ Own K O H a c ∧ RpL K O H xs ds ∧ f c ds = some (c', rd) ∧ ∀ v ob, Own K O (upd H a ob) a c' → Rp K O (upd H a ob) v rd → Q v (upd H a ob)
section
variable {X : Cx} {o e : Expr} {es : List Expr} {ma : M (List Rs)} {name : Str} {apos cpos p : Pos} {T id : String} {f : Dt → List Dt → Option (Dt × Dt)} {i : Nat} {x : Str}
theorem mMethS_read {t : TA} (hm0 : ∀ σ H Q, aOf X.K ma σ H Q → t σ H Q) (σ : L2.St) (H : Hp) (Q : VK) (h : tOf X.K (mMethS i T f ma) σ H Q) : tBS X T (rMutM X.K f) (tVar i) t σ H Q := by
  obtain ⟨E, τ, r, τ', S, hm, k⟩ := h
  unfold mMethS at hm
  split at hm
  · rename_i io0 c0 e0
    split at hm
    · rename_i hty
      simp only [Option.bind_eq_some_iff] at hm
      obtain ⟨⟨rs, τ1⟩, h1, ⟨ds, τ2⟩, h2, hm⟩ := hm
      split at hm
      · rename_i io c e1
        simp only [Option.map_eq_some_iff] at hm
        obtain ⟨⟨c', rd⟩, h3, h4⟩ := hm
        cases h4
        obtain ⟨a, hva, _, hc0⟩ := S.ow i io0 c0 e0
        refine ⟨_, hva, tyN_rt hc0.rt hty, hm0 _ _ _ ⟨E, τ, rs, τ1, S, h1, fun vs H1 P => ?_⟩⟩
        obtain ⟨B, rl⟩ := P.share h2
        obtain ⟨a', hva', _, hc⟩ := B.rep.ow i io c e1
        rw [hva] at hva'
        cases hva'
        refine ⟨Av E τ2 σ, a, c, ds, c', rd, rfl, .inr ⟨i, _, e1, rfl, hva⟩, hc, rl, h3, fun v ob w rv => k _ _ ?_⟩
        have B2 := B.comp (B.rep.mut e1 hva w)
        exact ⟨B2.ext, B2.dn, B2.rep, rv.mono (Ext.refl (O := Av E (τ2.set i (.ow io c')) σ)).wk fun b z => .inl (z.imp id (os_ow e1).1)⟩
      · cases hm
    · cases hm
  · cases hm
theorem se_methS (pa : PlainAttrs T) (slot : Slot T name id) (hty : typeOf (.builtin id) = pure (.type "method_descriptor")) (hm : MtR X id (rMutM X.K f)) (hN : X.N[i]? = some x) (hv : Vis X.env.scope x) (ha : SA X (e :: es) ma)
    (hd : (x == ("__debug__" : Str)) = false := by decide) (hcd : (x == ("__classdict__" : Str)) = false := by decide)
    (hbase : attributeBase (.Name x p) name X.env (eval (.Name x p) X.env) = eval (.Name x p) X.env := by rfl)
    (hfew : ((backTo cpos (starEach (e :: es) X.env)).all (fun x => !x.1) && (backToKw cpos (keywordEach [] X.env)).all (fun x => x.1.isSome)
      && decide ((e :: es).length + ([] : List Keyword).length + (if ([] : List Keyword).isEmpty then 0 else 1) < 30)) = true := by rfl)
    (hline : (apos.endLine == cpos.line) = true := by rfl) (hs : starEach (e :: es) X.env = (false, eval e X.env) :: starEach es X.env := by rfl) (hplain : (backTo cpos (starEach es X.env)).any (·.1) = false := by rfl) :
    SE X (.Call (.Attribute (.Name x p) name apos) (e :: es) [] cpos) (mMethS i T f ma) := ⟨peW (pe_bs pa slot hty hm (pe_var hN hv hd hcd) ha.pa hbase hfew hline hs hplain) (mMethS_read fun _ _ _ q => q)⟩
theorem se_methS0 (pa : PlainAttrs T) (slot : Slot T name id) (hty : typeOf (.builtin id) = pure (.type "method_descriptor")) (hm : MtR X id (rMutM X.K f)) (hN : X.N[i]? = some x) (hv : Vis X.env.scope x)
    (hd : (x == ("__debug__" : Str)) = false := by decide) (hcd : (x == ("__classdict__" : Str)) = false := by decide)
    (hbase : attributeBase (.Name x p) name X.env (eval (.Name x p) X.env) = eval (.Name x p) X.env := by rfl) (hline : (apos.endLine == cpos.line) = true := by rfl) :
    SE X (.Call (.Attribute (.Name x p) name apos) [] [] cpos) (mMethS i T f mA0) := ⟨peW (pe_bs0 pa slot hty hm (pe_var hN hv hd hcd) hbase hline) (mMethS_read fun σ H Q q => by
      obtain ⟨E, τ, rs, τ', S, hm, k⟩ := q
      cases hm
      exact k [] H ⟨.refl, .refl, S, .nil⟩)⟩
theorem RpL.eraseIdx {K : PySem.W.Frag} {O : AS} {H : Hp} {vs : List V} {ds : List Dt} (h : RpL K O H vs ds) (n : Nat) : RpL K O H (vs.eraseIdx n) (ds.eraseIdx n) := by
  induction vs generalizing ds n with
  | nil => cases h; exact .nil
  | cons w vs ih =>
    cases h with
    | cons a b =>
      cases n with
      | zero => exact b
      | succ n => exact .cons a (ih b n)
theorem RpL.dropLast {K : PySem.W.Frag} {O : AS} {H : Hp} {vs : List V} {ds : List Dt} (h : RpL K O H vs ds) : RpL K O H vs.dropLast ds.dropLast := by
  rw [List.dropLast_eq_take, List.dropLast_eq_take, h.length]
  exact h.take _
def fApp : Dt → List Dt → Option (Dt × Dt)
  | .list xs, [d] => if xs.length < sizeLine then some (.list (xs ++ [d]), .none) else none
  | _, _ => none
def fPop : Dt → List Dt → Option (Dt × Dt)
  | .list xs, [] => (xs[xs.length - 1]?).map fun y => (.list xs.dropLast, y)
  | .list xs, [.int i] => if -(2 ^ 63) ≤ i ∧ i < 2 ^ 63 then (seqIndex? i xs.length).bind fun k => (xs[k]?).map fun y => (.list (xs.eraseIdx k), y) else none
  | _, _ => none
def fRev : Dt → List Dt → Option (Dt × Dt)
  | .list xs, [] => some (.list xs.reverse, .none)
  | _, _ => none
theorem mv_app : MtR X "list.append" (rMutM X.K fApp) := by
  intro pins s σ H x xs v us Q I rx rs h
  obtain ⟨O, a, c, ds, c', rd, rfl, ha, hc, hl, hf, q⟩ := h
  unfold fApp at hf
  split at hf
  · split at hf
    · rename_i hz
      cases hf
      cases hc with
      | lst r rp =>
        cases hl with
        | cons r1 r2 =>
          cases r2
          have nt : ∀ ys, H a ≠ some (.tup ys) := fun ys z => by rw [r] at z; cases z
          exact mt_append pins s σ H _ _ v us Q I rx rs ⟨a, _, _, rfl, rfl, r, by rw [rp.length]; exact hz, q _ _ (.lst upd_same (rpL_put (rp.snoc r1) ha nt)) .non⟩
    · cases hf
  · cases hf
theorem mv_pop : MtR X "list.pop" (rMutM X.K fPop) := by
  intro pins s σ H x xs v us Q I rx rs h
  obtain ⟨O, a, c, ds, c', rd, rfl, ha, hc, hl, hf, q⟩ := h
  unfold fPop at hf
  split at hf
  · simp only [Option.map_eq_some_iff] at hf
    obtain ⟨y, h1, h2⟩ := hf
    cases h2
    cases hc with
    | lst r rp =>
      cases hl
      have nt : ∀ ys, H a ≠ some (.tup ys) := fun ys z => by rw [r] at z; cases z
      obtain ⟨w, h3, h4⟩ := rp.get h1
      exact mt_pop pins s σ H _ _ v us Q I rx rs ⟨a, _, w, rfl, rfl, r, by rw [rp.length]; exact h3, q _ _ (.lst upd_same (rpL_put rp.dropLast ha nt)) (h4.mono (Wk.put ha nt) fun _ z => .inl z)⟩
  · split at hf
    · rename_i hb
      simp only [Option.bind_eq_some_iff, Option.map_eq_some_iff] at hf
      obtain ⟨j, h0, y, h1, h2⟩ := hf
      cases h2
      cases hc with
      | lst r rp =>
        cases hl with
        | cons r1 r2 =>
          cases r2
          cases r1
          have nt : ∀ ys, H a ≠ some (.tup ys) := fun ys z => by rw [r] at z; cases z
          obtain ⟨w, h3, h4⟩ := rp.get h1
          exact mt_popAt pins s σ H _ _ v us Q I rx rs ⟨a, _, _, j, w, rfl, rfl, r, hb.1, hb.2, by rw [rp.length]; exact h0, h3, q _ _ (.lst upd_same (rpL_put (rp.eraseIdx j) ha nt)) (h4.mono (Wk.put ha nt) fun _ z => .inl z)⟩
    · cases hf
  · cases hf
theorem mv_rev : MtR X "list.reverse" (rMutM X.K fRev) := by
  intro pins s σ H x xs v us Q I rx rs h
  obtain ⟨O, a, c, ds, c', rd, rfl, ha, hc, hl, hf, q⟩ := h
  unfold fRev at hf
  split at hf
  · cases hf
    cases hc with
    | lst r rp =>
      cases hl
      have nt : ∀ ys, H a ≠ some (.tup ys) := fun ys z => by rw [r] at z; cases z
      exact mt_reverse pins s σ H _ _ v us Q I rx rs ⟨a, _, rfl, rfl, r, q _ _ (.lst upd_same (rpL_put rp.reverse ha nt)) .non⟩
  · cases hf
end
/-! ### displays of dicts -/
def mD0 : M Rs := fun τ => some (.nw (.dict []), τ)
def dispL : List (Dt × Dt) → List Dt → Option (List (Dt × Dt))
  | acc, [] => some acc
  | acc, k :: v :: r => (keyQ k).bind fun kk => if likeK acc kk && decide (acc.length < sizeLine) then dispL (putD acc k kk v) r else none
  | _, _ => none
def mDct (ma : M (List Rs)) : M Rs := fun τ => (ma τ).bind fun p => (shareAll p.1 p.2).bind fun q => (dispL [] q.1).map fun kvs => (.nw (.dict kvs), q.2)
inductive FV : List V → List (Value × Value) → Prop
  | nil : FV [] []
  | cons {x y : V} {xs : List V} {u w : Value} {ps : List (Value × Value)} : RelV x u → RelV y w → FV xs ps → FV (x :: y :: xs) ((u, w) :: ps)
structure SPr (X : Cx) (pos : Pos) (keys : List (Option Expr)) (values : List Expr) (t : TA) : Prop where
  run : ∀ (pins : List (Addr × Obj)) (s : Shared) (σ : L2.St) (H : Hp) (Q : List V → Hp → Prop), Inv X pins σ H s → t σ H Q →
    wpAny (model X.prog X.w) X.A (evalPairs (pairTrees keys values X.env pos)) (fun vs s' => ∃ ps H', Inv X pins σ H' s' ∧ FV ps vs ∧ Q ps H') X.xe s
section
variable {X : Cx} {pos : Pos} {k v : Expr} {ks : List (Option Expr)} {vs : List Expr} {mk mv : M Rs} {mr ma : M (List Rs)}
theorem mA_read {K : PySem.W.Frag} {me : M Rs} {m : M (List Rs)} (σ : L2.St) (H : Hp) (Q : List V → Hp → Prop) (h : aOf K (mA me m) σ H Q) : tCons (tOf K me) (aOf K m) σ H Q := by
  obtain ⟨E, τ, rs, τ', S, hm, k⟩ := h
  simp only [mA, Option.bind_eq_some_iff, Option.map_eq_some_iff] at hm
  obtain ⟨⟨ra, τ1⟩, h1, ⟨rb, τ2⟩, h2, h3⟩ := hm
  cases h3
  refine ⟨E, τ, ra, τ1, S, h1, fun x H1 P1 => ⟨E, τ1, rb, _, P1.srep, h2, fun vs H2 P2 => k _ H2 ?_⟩⟩
  exact ⟨P1.ext.trans P2.ext fun a q => .inl (P1.dn.om q), P1.dn.trans P2.dn, P2.rep, .cons (P1.wait.on (H2 := H2) P2) P2.res⟩
theorem spr_nil : SPr X pos [] [] (aOf X.K mA0) := ⟨fun pins s σ H Q I h => by
  obtain ⟨E, τ, rs, τ', S, hm, k⟩ := h
  cases hm
  exact pairTrees_nil_walk ⟨[], H, I, .nil, k [] H ⟨.refl, .refl, S, .nil⟩⟩⟩
theorem spr_cons (hk : SE X k mk) (hv : SE X v mv) (hr : SPr X pos ks vs (aOf X.K mr)) : SPr X pos (some k :: ks) (v :: vs) (aOf X.K (mA mk (mA mv mr))) := ⟨fun pins s σ H Q I h =>
  pairTrees_cons_walk (thn (hk.pe.run pins s σ H _ I (mA_read σ H Q h)) fun u s1 ⟨x, H1, I1, rx, q1⟩ => thn (hv.pe.run pins s1 σ H1 _ I1 (mA_read σ H1 _ q1)) fun w2 s2 ⟨y, H2, I2, ry, q2⟩ =>
    thn (hr.run pins s2 σ H2 _ I2 q2) fun ws s3 ⟨ps, H3, I3, rel, q3⟩ => ⟨x :: y :: ps, H3, I3, .cons rx ry rel, q3⟩)⟩
theorem se_d0 : SE X (.Dict [] [] pos) mD0 := by
  refine ⟨peW pe_dnewK fun σ H Q h => ?_⟩
  obtain ⟨E, τ, r, τ', S, hm, k⟩ := h
  cases hm
  exact fun p hp => k _ _ (post_step S (.new hp) (r := .nw (.dict [])) ⟨p, rfl, hp, .dK upd_same .nil⟩)
/-- the pairs are put in, one by one -/
theorem store_all {O : AS} (hC : Cst.tk = true → ∀ a, ¬ Cst.isC a) (hu : X.A.units + 64 < cLine) {pins : List (Addr × Obj)} {σ : L2.St} {a : Addr} (ha : O a) {E : Value → Shared → Prop} : ∀ {ds : List Dt} {ps : List V} {ws : List (Value × Value)} {acc kvs : List (Dt × Dt)} {s : Shared} {H : Hp} {Q : Hp → Prop},
    Inv X pins σ H s → FV ps ws → RpL X.K O H ps ds → Own X.K O H a (.dict acc) → dispL acc ds = some kvs →
    (∀ H', Own X.K O H' a (.dict kvs) → (∃ ob, H' = upd H a ob) ∨ H' = H → Q H') → wpAny (model X.prog X.w) X.A (storeAll a ws) (fun _ s' => ∃ H', Inv X pins σ H' s' ∧ Q H') E s
  | [], _, _, acc, kvs, s, H, Q, I, .nil, rl, hd, h, q => by
    cases h
    unfold storeAll
    simp only [List.forIn_nil]
    exact wpAny_pure ⟨H, I, q H hd (.inr rfl)⟩
  | k :: d :: ds, _, _, acc, kvs, s, H, Q, I, .cons (u := u) (w := w) (ps := ws) r1 r2 r3, rl, hd, h, q => by
    simp only [dispL, Option.bind_eq_some_iff] at h
    obtain ⟨kk, h1, h2⟩ := h
    split at h2
    · rename_i hl
      obtain ⟨l1, l2⟩ := Bool.and_eq_true_iff.mp hl
      cases rl with
      | cons rk rl =>
        cases rl with
        | cons rv rl =>
          have nt := hd.notup
          obtain ⟨ob, g, w'⟩ := own_put hC hd ha (.rp rk) h1 l1 (of_decide_eq_true l2) rv
          unfold storeAll
          simp only [List.forIn_cons]
          refine wpAny_bind (wpAny_bind ?_)
          refine g_dictSet (by omega) I g r1 r2 fun s' I' => wpAny_pure ?_
          refine store_all hC hu ha (Q := Q) I' r3 (rpL_put rl ha nt) w' h2 fun H' w2 z => q H' w2 ?_
          · rcases z with ⟨ob2, rfl⟩ | rfl
            · exact .inl ⟨ob2, upd_upd⟩
            · exact .inl ⟨ob, rfl⟩
    · cases h2
  | [], _, _, _, _, _, _, _, _, .cons _ _ _, rl, _, _, _ => by cases rl
  | [_], _, _, _, _, _, _, _, _, .cons _ _ _, rl, _, _, _ => by cases rl with | cons _ r => cases r
  | _ :: _, _, _, _, _, _, _, _, _, .nil, rl, _, _, _ => by cases rl
theorem se_disp (hC : Cst.tk = true → ∀ a, ¬ Cst.isC a) (hu : X.A.units + 64 < cLine) (h : SPr X pos ks vs (aOf X.K ma)) (hall : ks.all (·.isSome) = true := by rfl) (hl : ks.length = vs.length := by rfl) (h0 : ks ≠ [] := by exact fun z => nomatch z) (h15 : ks.length ≤ 15 := by decide) :
    SE X (.Dict ks vs pos) (mDct ma) := by
  refine ⟨⟨fun pins s σ H Q I q => ?_⟩⟩
  obtain ⟨E, τ, r, τ', S, hm, k⟩ := q
  simp only [mDct, Option.bind_eq_some_iff, Option.map_eq_some_iff] at hm
  obtain ⟨⟨rs, τ1⟩, h1, ⟨ds, τ2⟩, h2, kvs, h3, h4⟩ := hm
  cases h4
  have hn := I.hok.fresh (Nat.le_refl s.heap.objs.size)
  have I1 := I.laid (a := s.heap.objs.size) (o := .dK []) (h' := s.heap.push { cls := .type "dict", data := .dict #[] }) (t' := s.toks) (fun _ _ q => Heap.get?_push_of_some _ q) (Nat.le_refl _) (dk_empty s.heap I.big)
  have S1 := S.growNew (.new (o := .dK []) hn) hn (by rw [upd_same]; simp)
  refine wpAny_Dict_any hall hl h0 h15 (thn (h.run pins _ σ _ _ I1 ⟨_, τ, rs, τ1, S1, h1, fun xs H1 P => P⟩) fun ws s2 ⟨ps, H2, I2, fv, P⟩ => ?_)
  obtain ⟨B, rl⟩ := P.share h2
  have hE : Av (fun a => E a ∨ a = s.heap.objs.size) τ2 σ s.heap.objs.size := .inl (.inr rfl)
  have nOm : ¬ Om τ σ s.heap.objs.size := fun z => (S.os_at (om_os z)).1 hn
  have e2 : H2 s.heap.objs.size = some (.dK []) := B.ext.keep _ _ nOm trivial upd_same
  have w0 : Own X.K (Av (fun a => E a ∨ a = s.heap.objs.size) τ2 σ) H2 s.heap.objs.size (.dict []) := .dK e2 .nil
  refine wpAny_mono (store_all (Q := fun H' => Own X.K (Av (fun a => E a ∨ a = s.heap.objs.size) τ2 σ) H' s.heap.objs.size (.dict kvs) ∧ ((∃ ob, H' = upd H2 s.heap.objs.size ob) ∨ H' = H2)) hC hu hE I2 fv rl w0 h3 fun H' w z => ⟨w, z⟩) (fun _ s3 ⟨H3, I3, w, z⟩ => ⟨.ref _, H3, I3, rfl, k _ _ ?_⟩) fun _ _ x => x
  · have eN : Ext (Om τ σ) H H2 := (Ext.trans (Ext.new (O := Om τ σ) (o := .dK []) hn) B.ext fun _ z => .inl z)
    have S3 : SRep X.K (fun a => E a ∨ a = s.heap.objs.size) τ2 σ H3 ∧ Ext (Om τ σ) H H3 := by
      rcases z with ⟨ob, rfl⟩ | rfl
      · have nob : nTab ob := w.nt ob upd_same
        have pob : ∀ u, H2 s.heap.objs.size = some u → mutO u := fun u z => by rw [e2] at z; cases z; trivial
        refine ⟨B.rep.putE (.inr rfl) pob nob, ⟨fun a u ha n e => ?_, fun a xs e => ?_, fun a e => ?_, fun t => tabs_put (fun u z => (pob u z).pl) nob (eN.tabs t)⟩⟩
        · rw [upd_ne (ne_of_none e hn)]; exact eN.keep a u ha n e
        · rw [upd_ne (ne_of_none e hn)]; exact eN.tup a xs e
        · unfold upd
          split
          · simp
          · exact eN.dom a e
      · exact ⟨B.rep, eN⟩
    exact ⟨S3.2, B.dn, s.heap.objs.size, rfl, hn, fun z => S.ex _ z hn, S3.1, w⟩
end
end Iv
set_option Elab.async false
set_option linter.all false
set_option maxRecDepth 100000
set_option maxHeartbeats 2000000
namespace Iv
open PySem L2 PyProof.Rows
variable [Cst]
/-! ### for over a locked dict -/
section
variable {X : Cx} {tg iter : Expr} {body : List Stmt} {is : List Nat} {b : MB} {mb : MS} {pos : Pos} {E : AS} {τ1 τ2 : Tau} {σ : L2.St} {H0 : Hp} {items : List Dt} {J : It} {o1 : Out} {D : Ends}
theorem for_core (wk : WalkD X.K E τ1 σ J items H0) (S : SRep X.K E τ1 σ H0) (h2 : forL b mb items τ1 = some (o1, τ2)) (fin : SOut X.K E τ1 σ H0 o1 τ2 D) :
    ∃ W : Nat → Nat → L2.St → Hp → Prop, (∃ m, W 0 m σ H0) ∧ ∀ i m σ H, W i m σ H →
      (J.stop i H ∧ D.nx σ H) ∨ (J.go i H ∧ ∃ N : L2.St → Hp → Prop, (∀ σ' H', N σ' H' → ∃ m', m' < m ∧ W (i + 1) m' σ' H') ∧ ∀ x H', J.yld i H x H' → gOf X.K is b x σ H' fun σ2 H2 => sOf X.K mb { D with nx := N, ct := N, bk := D.nx } σ2 H2) := by
  obtain ⟨Y, W, hY⟩ := wk
  refine for_it (W.mono (G' := fun H => Ext (Om τ1 σ) H0 H) (fun _ e => e) fun _ _ _ _ _ _ y => y) (fun i σi Hi => ∃ τi, PostS τ1 σ H0 τi σi Hi ∧ SRep X.K E τi σi Hi ∧ forL b mb (items.drop i) τi = some (o1, τ2)) ⟨τ1, .refl, S, by simpa using h2⟩ (fun i σi Hi _ ⟨τi, Q, _, _⟩ => Q.ext) (fun i x σi Hi H' hi ⟨τi, Q, Si, hf⟩ y => ?_) fun σi Hi ⟨τi, Q, Si, hf⟩ => ?_
  · obtain ⟨ex, rp⟩ := hY i Hi x H' items[i] (List.getElem?_eq_getElem hi) Q.ext y
    rw [List.drop_eq_getElem_cons hi] at hf
    simp only [forL, Option.bind_eq_some_iff] at hf
    obtain ⟨τb, hb1, ⟨ob, τc⟩, hb2, hb3⟩ := hf
    have Q' : PostS τ1 σ H0 τi σi H' := Q.comp (postS_dn (ex.wider fun _ z => z.elim) .refl)
    have S' := Si.grow ex
    have rx : Rp X.K (Av E τi σi) H' x items[i] := by
      have r1 := rp (fun a => Av E τ1 σ a ∨ Av E τi σi a) (Q'.ext.wider fun a z => .inl (.inr (om_os z))).wk fun a z => by
        rcases z with z | z | z
        · exact .inl z
        · exact .inl (.inl z)
        · exact (Q.os a z).elim (fun z => .inl (.inr z)) .inr
      exact r1.mono (Ext.refl (O := Av E τi σi)).wk fun a z => .inl (.inr z)
    refine ⟨E, τi, items[i], τb, S', rx, hb1, fun σb Qb Sb _ => ⟨E, τb, ob, τc, Sb, hb2, ?_⟩⟩
    cases ob with
    | nx => exact fun σ2 H2 Q2 S2 => ⟨τc, Q'.comp (Qb.comp Q2), S2, hb3⟩
    | ct => exact fun σ2 H2 Q2 S2 => ⟨τc, Q'.comp (Qb.comp Q2), S2, hb3⟩
    | bk => cases hb3; exact fun σ2 H2 Q2 S2 => fin σ2 H2 (Q'.comp (Qb.comp Q2)) S2
    | rt d fr => cases hb3; exact fun σ2 H2 v Q2 r => fin σ2 H2 v (Q'.comp (Qb.comp Q2)) (r.back (Q'.comp Qb))
  · simp only [List.drop_length, forL] at hf
    cases hf
    exact fin σi Hi Q Si
end
/-! ### a thing's mark is changed, its reading stays -/
section
variable {K : PySem.W.Frag} {E : AS} {τ τ' τ1 : Tau} {σ σ' : L2.St} {H H' H1 : Hp} {d : Addr} {u o : HO} {od : Obj}
theorem wk_frz (h : H d = some u) (nt : ∀ xs, u ≠ .tup xs) (nf : ∀ o w, u ≠ .frz o w) (O : AS) : Wk O H (upd H d (.frz od u)) := by
  have rd : ∀ a w, Rd H a w → Rd (upd H d (.frz od u)) a w := fun a w r => by
    by_cases hb : a = d
    · subst hb
      rcases r with r | ⟨o2, r⟩
      · rw [h] at r; cases r; exact .inr ⟨od, upd_same⟩
      · rw [h] at r; cases r; exact absurd rfl (nf _ _)
    · rcases r with r | ⟨o2, r⟩
      · exact .inl (by rw [upd_ne hb]; exact r)
      · exact .inr ⟨o2, by rw [upd_ne hb]; exact r⟩
  refine ⟨fun a xs _ r => rd a _ r, fun a xs _ r => rd a _ r, fun a xs _ r => rd a _ r, fun a xs r => ?_⟩
  rw [upd_ne (fun z => by rw [z, h] at r; cases r; exact nt _ rfl)]
  exact r
theorem wk_unfrz (h : H d = some (.frz od u)) (O : AS) : Wk O H (upd H d u) := by
  have rd : ∀ a w, (∀ o v, w ≠ HO.frz o v) → Rd H a w → Rd (upd H d u) a w := fun a w nf r => by
    by_cases hb : a = d
    · subst hb
      rcases r with r | ⟨o2, r⟩
      · rw [h] at r; cases r; exact absurd rfl (nf _ _)
      · rw [h] at r; cases r; exact .inl upd_same
    · rcases r with r | ⟨o2, r⟩
      · exact .inl (by rw [upd_ne hb]; exact r)
      · exact .inr ⟨o2, by rw [upd_ne hb]; exact r⟩
  refine ⟨fun a xs _ r => rd a _ (fun _ _ z => nomatch z) r, fun a xs _ r => rd a _ (fun _ _ z => nomatch z) r, fun a xs _ r => rd a _ (fun _ _ z => nomatch z) r, fun a xs r => ?_⟩
  rw [upd_ne (fun z => by rw [z, h] at r; cases r)]
  exact r
theorem SRep.retag (S : SRep K E τ σ H) (w : ∀ O, Wk O H (upd H d o)) (hd : H d ≠ none) (hm : ∀ v, H d = some v → mutO v) (nt : mutO o) (no : ∀ (i : Nat) io c, τ[i]? = some (.ow io c) → σ[i]? ≠ some (some (.ref d))) : SRep K E τ σ (upd H d o) := by
  have nn : ∀ a, H a ≠ none → upd H d o a ≠ none := fun a q => by
    unfold upd
    split
    · simp
    · exact q
  refine ⟨S.len, fun a q => nn a (S.ex a q), tabs_put (fun v z => (hm v z).pl) nt.nt S.tb, fun i c q => ?_, fun i io c q => ?_, fun i io c q => ?_, S.ad, S.inj⟩
  · obtain ⟨v, h1, h2⟩ := S.sh i c q
    exact ⟨v, h1, h2.mono (w _) fun _ z => .inl z⟩
  · obtain ⟨a, h1, h2, h3⟩ := S.ow i io c q
    have na : a ≠ d := fun z => no i io c q (by rw [← z]; exact h1)
    exact ⟨a, h1, h2, h3.mono (w _) (fun _ z => .inl z) fun u r => by rw [upd_ne na]; exact r⟩
  · obtain ⟨a, h1, h2, h3, h4, h5⟩ := S.lo i io c q
    refine ⟨a, h1, h2, nn a h3, fun v r => ?_, h5.mono (w _) (fun _ z => .inl z) fun b q => .inl fun u r hu => ?_⟩
    · unfold upd at r
      split at r
      · cases r; exact nt
      · exact h4 v r
    · rcases hu with ⟨xs, rfl⟩ | ⟨xs, rfl⟩ | ⟨xs, rfl⟩
      · exact (w nO).lst b xs (fun z => z) r
      · exact (w nO).dK b xs (fun z => z) r
      · exact (w nO).dT b xs (fun z => z) r
/-- the ends, behind the lock -/
def lockE (d : Addr) (od : Obj) (u : HO) (D : Ends) : Ends := ⟨fun σ' H' => H' d = some (.frz od u) ∧ D.nx σ' (upd H' d u), fun v H' => H' d = some (.frz od u) ∧ D.rt v (upd H' d u), fun σ' H' => H' d = some (.frz od u) ∧ D.bk σ' (upd H' d u), fun σ' H' => H' d = some (.frz od u) ∧ D.ct σ' (upd H' d u)⟩
theorem PostS.unfrz (Q : PostS τ1 σ (upd H d (.frz od u)) τ' σ' H') (h : H d = some u) (nt : mutO u) (nm : ¬ Om τ1 σ d) : H' d = some (.frz od u) ∧ PostS τ1 σ H τ' σ' (upd H' d u) := by
  have e1 := Q.ext.keep d (.frz od u) nm trivial upd_same
  have bk : ∀ a, upd H d (.frz od u) a = none → H a = none := fun a z => by
    by_cases ha : a = d
    · subst ha; rw [upd_same] at z; cases z
    · rw [upd_ne ha] at z; exact z
  refine ⟨e1, ⟨fun a o ha n e => ?_, fun a xs e => ?_, fun a e => ?_, fun t => tabs_put (fun v z => by rw [e1] at z; cases z; trivial) nt.nt (Q.ext.tabs (tabs_put (fun v z => by rw [h] at z; cases z; exact nt.pl) trivial t))⟩, fun a z => (Q.os a z).imp id (bk a), fun a z => (Q.om a z).imp id (bk a), Q.io, Q.lo⟩
  · by_cases hb : a = d
    · subst hb; rw [h] at e; cases e; exact upd_same
    · rw [upd_ne hb]; exact Q.ext.keep a o ha n (by rw [upd_ne hb]; exact e)
  · have hb : a ≠ d := fun z => by rw [z, h] at e; cases e; exact nt.tp _ rfl
    rw [upd_ne hb]
    exact Q.ext.tup a xs (by rw [upd_ne hb]; exact e)
  · by_cases hb : a = d
    · subst hb; rw [upd_same]; simp
    · rw [upd_ne hb]; exact Q.ext.dom a (by rw [upd_ne hb]; exact e)
theorem ow_frz {i : Nat} {io : Bool} {c : Dt} (S : SRep K E τ σ H) (h : H d = some (.frz od u)) (e : τ[i]? = some (.ow io c)) : σ[i]? ≠ some (some (.ref d)) := fun z => by
  obtain ⟨a, h1, _, w⟩ := S.ow i io c e
  rw [z] at h1
  cases h1
  cases w with
  | lst r _ => rw [h] at r; cases r
  | dK r _ => rw [h] at r; cases r
  | dT r _ => rw [h] at r; cases r
theorem SOut.unfrz {o1 : Out} {D : Ends} (k : SOut K E τ1 σ H o1 τ' D) (h : H d = some u) (nt : mutO u) (nm : ¬ Om τ1 σ d) : SOut K E τ1 σ (upd H d (.frz od u)) o1 τ' (lockE d od u D) := by
  have bk : ∀ a, upd H d (.frz od u) a = none → H a = none := fun a z => by
    by_cases ha : a = d
    · subst ha; rw [upd_same] at z; cases z
    · rw [upd_ne ha] at z; exact z
  have re : ∀ {E2 : AS} {σ2 H2}, H2 d = some (.frz od u) → SRep K E2 τ' σ2 H2 → SRep K E2 τ' σ2 (upd H2 d u) := fun e S => S.retag (wk_unfrz e) (by rw [e]; simp) (fun v z => by rw [e] at z; cases z; trivial) nt fun i io c q => ow_frz S e q
  cases o1 with
  | nx => intro σ2 H2 Q S2; obtain ⟨e, Q2⟩ := Q.unfrz h nt nm; exact ⟨e, k σ2 _ Q2 (re e S2)⟩
  | bk => intro σ2 H2 Q S2; obtain ⟨e, Q2⟩ := Q.unfrz h nt nm; exact ⟨e, k σ2 _ Q2 (re e S2)⟩
  | ct => intro σ2 H2 Q S2; obtain ⟨e, Q2⟩ := Q.unfrz h nt nm; exact ⟨e, k σ2 _ Q2 (re e S2)⟩
  | rt c fr =>
    intro σ2 H2 v Q r
    obtain ⟨e, Q2⟩ := Q.unfrz h nt nm
    refine ⟨e, k σ2 _ v Q2 ?_⟩
    cases fr with
    | false =>
      obtain ⟨S2, rp⟩ := r
      exact ⟨re e S2, rp.mono (wk_unfrz e _) fun _ z => .inl z⟩
    | true =>
      obtain ⟨p, ev, nE, q, S2, w⟩ := r
      refine ⟨p, ev, nE, q.imp id (bk p), re e S2, w.mono (wk_unfrz e _) (fun _ z => .inl z) fun o z => ?_⟩
      have np : p ≠ d := fun z2 => by
        subst z2
        cases w with
        | lst r _ => rw [e] at r; cases r
        | dK r _ => rw [e] at r; cases r
        | dT r _ => rw [e] at r; cases r
      rw [upd_ne np]
      exact z
end
/-! ### the items of a dict -/
def itemsL (kvs : List (Dt × Dt)) : List Dt := kvs.map fun p => .tuple [p.1, p.2]
def keysL (kvs : List (Dt × Dt)) : List Dt := kvs.map (·.1)
section
variable {X : Cx} {pins : List (Addr × Obj)} {σ : L2.St} {H : Hp} {s : Shared} {d : Addr} {o : Obj}
/-- what an entry holds -/
theorem entK {kvs : List (Key × V)} (I : Inv X pins σ H s) (h : H d = some (.frz o (.dK kvs))) : (d == sysModules) = false ∧ s.heap.get? d = some o ∧ o.ExactDict ∧ ∃ (es : Array DictEntry) (ep : Nat), o.data = .dict es ep ∧ es.size = kvs.length ∧
    ∀ (i : Nat) (k : Key) (v : V), kvs[i]? = some (k, v) → ∃ en, es[i]? = some en ∧ RelV (kV k) en.key ∧ RelV v en.val := by
  obtain ⟨hs, hd, hx, es, ep, vs, h1, h2, kv, o', es', h3, h4, h5, h6, h7, _⟩ := I.frzK h
  rw [hd] at h3
  cases h3
  rw [h1] at h5
  cases h5
  refine ⟨hs, hd, hx, es, ep, h1, h2, fun i k v e => ?_⟩
  obtain ⟨u, e2, ru⟩ := kv_get kv e
  have pg : ∀ {L : List DictEntry} {M : List (Key × Value)}, PySem.Pairs (mixKind X.prog X.w) L M → ∀ {i : Nat} {k : Key} {u : Value}, M[i]? = some (k, u) → ∃ en, L[i]? = some en ∧ keyIs k en.key = true ∧ en.val = u := by
    intro L M P
    induction P with
    | nil => intro i k u e; simp at e
    | cons a b c ih =>
      intro i k u e
      cases i with
      | zero => simp at e; obtain ⟨rfl, rfl⟩ := Prod.mk.injEq .. ▸ e; exact ⟨_, rfl, a, b⟩
      | succ i => simpa using ih (by simpa using e)
  obtain ⟨en, q1, q2, q3⟩ := pg h7 e2
  exact ⟨en, by simpa using q1, relV_key q2, by rw [q3]; exact ru⟩
theorem entT {kvs : List (List Key × V)} (I : Inv X pins σ H s) (h : H d = some (.frz o (.dT kvs))) : (d == sysModules) = false ∧ s.heap.get? d = some o ∧ o.ExactDict ∧ ∃ (es : Array DictEntry) (ep : Nat), o.data = .dict es ep ∧ es.size = kvs.length ∧
    ∀ (i : Nat) (k : List Key) (v : V), kvs[i]? = some (k, v) → ∃ (en : DictEntry) (q : Addr), es[i]? = some en ∧ en.key = .ref q ∧ H q = some (.tup (k.map kV)) ∧ RelV v en.val := by
  obtain ⟨hd, z, hs, xs, pr, o', es, ep, ho, hx, hdt, he, _⟩ := I.hok d _ h
  rw [hd] at ho
  cases ho
  refine ⟨hs, hd, hx, es, ep, hdt, ?_, fun i k v e => ?_⟩
  · have l1 : es.size = xs.length := size_of_entries he
    have l2 : kvs.length = xs.length := Paired.length pr
    omega
  · obtain ⟨b, hb, e1, e2, e3⟩ := L2.paired_get pr e
    have q := entry_at he i
    rw [hb] at q
    exact ⟨_, b.2.1, q, rfl, e2, e3⟩
end
def rowK (kvs : List (Key × V)) (i : Nat) : List V := match kvs[i]? with
  | some (k, v) => [kV k, v]
  | none => []
def rowT (bs : Nat → Addr) (kvs : List (List Key × V)) (i : Nat) : List V := match kvs[i]? with
  | some (_, v) => [.ref (bs i), v]
  | none => []
def bsOf (es : Array DictEntry) (i : Nat) : Addr := match es[i]? with
  | some en => (match en.key with
    | .ref q => q
    | _ => 0)
  | none => 0
theorem row2 {vs : List V} : vs.length ≤ 2 → vs.length ≤ sizeLine := fun h => Nat.le_trans h (by decide)
theorem goesN_cast {prog : Program} {w : World} {A : Around} {tg : Expr} {it : Addr} {fp wr : List Addr} {n m : Nat} {Y : Nat → Heap → Value → Heap → Prop} {St : Nat → Heap → Prop} (h : n = m) (G : GoesN prog w A tg it fp wr n Y St) : GoesN prog w A tg it fp wr m Y St := h ▸ G
section
variable {P : Program} {w : World} {K : PySem.W.Frag} {d it : Addr} {od : Obj} {es : Array DictEntry} {ep : Nat} {elts : List Expr} {kk : Nat} {tpos : Pos}
theorem turn_itK {kvs : List (Key × V)} (hne : d ≠ it) (hod : od.data = .dict es ep) :
    Turn P w K (.Tuple elts kk tpos) (Jt kvs.length (fun H => H d = some (.frz od (.dK kvs))) (rowK kvs)) [it] it (fun i h => ∃ ok ov, IsItemIter h it d i es.size ep ok ov) := by
  refine turn_of (wr := [it]) (fpA := []) (by simp) (fun c h => h) (fun i h st c hc => ?_) (fun i h h' st kp => ?_) (fun i => row2 (by unfold rowK; split <;> simp)) (fun X hP hw hK hc pins s σ H I g hf => ?_) fun A i s Q E h => let ⟨_, _, e⟩ := h; PySem.W.kcp_self e
  · have e' : c = it := by simpa using hc
    obtain ⟨ok, ov, e⟩ := st
    rw [e']
    exact ⟨_, e, fun v z => nomatch z⟩
  · obtain ⟨ok, ov, e⟩ := st
    exact ⟨ok, ov, kp it (by simp) _ e⟩
  · subst hP hw hK
    obtain ⟨hs, hgd, hx, es', ep', hdt, hsz, ent⟩ := entK I g
    obtain ⟨rfl, rfl⟩ := dict_ep hod hdt
    refine ⟨_, _, _, goesN_cast hsz (GoesN.rawItems (I.ok.hd hc) it d hne es' ep'), fun i st => ⟨st, _, hgd, hx, hod⟩, fun i h st => st.1, fun i v h' hi hY => ?_⟩
    obtain ⟨T, hi', rfl, hT, hI⟩ := hY
    refine ⟨T, _, rfl, hT, hI, ?_⟩
    have hk : kvs[i]? = some kvs[i] := List.getElem?_eq_getElem hi
    obtain ⟨en, q1, q2, q3⟩ := ent i _ _ (show kvs[i]? = some (kvs[i].1, kvs[i].2) from hk)
    have e0 : es'[i] = en := by
      rw [Array.getElem?_eq_getElem hi'] at q1
      exact Option.some.inj q1
    unfold rowK
    rw [hk, e0]
    exact .cons q2 (.cons q3 .nil)
theorem turn_itT {kvs : List (List Key × V)} (hne : d ≠ it) (hod : od.data = .dict es ep) :
    Turn P w K (.Tuple elts kk tpos) (Jt kvs.length (fun H => H d = some (.frz od (.dT kvs))) (rowT (bsOf es) kvs)) [it] it (fun i h => ∃ ok ov, IsItemIter h it d i es.size ep ok ov) := by
  refine turn_of (wr := [it]) (fpA := []) (by simp) (fun c h => h) (fun i h st c hc => ?_) (fun i h h' st kp => ?_) (fun i => row2 (by unfold rowT; split <;> simp)) (fun X hP hw hK hc pins s σ H I g hf => ?_) fun A i s Q E h => let ⟨_, _, e⟩ := h; PySem.W.kcp_self e
  · have e' : c = it := by simpa using hc
    obtain ⟨ok, ov, e⟩ := st
    rw [e']
    exact ⟨_, e, fun v z => nomatch z⟩
  · obtain ⟨ok, ov, e⟩ := st
    exact ⟨ok, ov, kp it (by simp) _ e⟩
  · subst hP hw hK
    obtain ⟨hs, hgd, hx, es', ep', hdt, hsz, ent⟩ := entT I g
    obtain ⟨rfl, rfl⟩ := dict_ep hod hdt
    refine ⟨_, _, _, goesN_cast hsz (GoesN.rawItems (I.ok.hd hc) it d hne es' ep'), fun i st => ⟨st, _, hgd, hx, hod⟩, fun i h st => st.1, fun i v h' hi hY => ?_⟩
    obtain ⟨T, hi', rfl, hT, hI⟩ := hY
    refine ⟨T, _, rfl, hT, hI, ?_⟩
    have hk : kvs[i]? = some kvs[i] := List.getElem?_eq_getElem hi
    obtain ⟨en, q, q1, q2, _, q3⟩ := ent i _ _ (show kvs[i]? = some (kvs[i].1, kvs[i].2) from hk)
    have e0 : es'[i] = en := by
      rw [Array.getElem?_eq_getElem hi'] at q1
      exact Option.some.inj q1
    have e1 : bsOf es' i = q := by
      unfold bsOf
      rw [q1]
      simp only [q2]
    unfold rowT
    rw [hk, e0, q2, e1]
    exact .cons rfl (.cons q3 .nil)
end
/-- the dict is locked -/
def iItm (td : TE) : TI := fun σ H R => td σ H fun x H1 => ∃ d od, x = .ref d ∧ ((∃ kvs, H1 d = some (.frz od (.dK kvs)) ∧ R (Jt kvs.length (fun H => H d = some (.frz od (.dK kvs))) (rowK kvs)) H1) ∨
  ∃ kvs, H1 d = some (.frz od (.dT kvs)) ∧ ∀ bs : Nat → Addr, (∀ (i : Nat) k v, kvs[i]? = some (k, v) → H1 (bs i) = some (.tup (k.map kV))) → R (Jt kvs.length (fun H => H d = some (.frz od (.dT kvs))) (rowT bs kvs)) H1)
section
variable {X : Cx} {tg e : Expr} {td : TE} {apos cpos tpos : Pos} {elts : List Expr} {kk : Nat}
theorem pi_itm (he : PE X e td) (hbase : attributeBase e "items" X.env (eval e X.env) = eval e X.env := by rfl) (hline : (apos.endLine == cpos.line) = true := by rfl) :
    PI X (.Tuple elts kk tpos) (.Call (.Attribute e "items" apos) [] [] cpos) (iItm td) := by
  refine ⟨fun pins s σ H R I h => ?_⟩
  refine wpAny_Call_method (T := "dict") (id := "dict.items") hbase rfl hline F.plainAttrs_dict F.slot_dict_items F.type_dict_items (thn (he.run pins s σ H _ I h) fun u s1 ⟨x, H1, I1, rx, d, od, ex, q⟩ => ?_)
  subst ex
  obtain rfl : u = Value.ref d := rx
  have raw : ∃ (es : Array DictEntry) (ep : Nat), (d == sysModules) = false ∧ s1.heap.get? d = some od ∧ od.ExactDict ∧ od.data = .dict es ep ∧ (∀ it, d ≠ it → ∃ J tn, Turn X.prog X.w X.K (.Tuple elts kk tpos) J [it] it tn ∧ (∀ h, IsItemIter h it d 0 es.size ep .none .none → tn 0 h) ∧ R J H1) := by
    rcases q with ⟨kvs, hd, q⟩ | ⟨kvs, hd, q⟩
    · obtain ⟨hs, hgd, hx, es, ep, hdt, hsz, ent⟩ := entK I1 hd
      exact ⟨es, ep, hs, hgd, hx, hdt, fun it hne => ⟨_, _, turn_itK hne hdt, fun h e => ⟨_, _, e⟩, q⟩⟩
    · obtain ⟨hs, hgd, hx, es, ep, hdt, hsz, ent⟩ := entT I1 hd
      refine ⟨es, ep, hs, hgd, hx, hdt, fun it hne => ⟨_, _, turn_itT hne hdt, fun h e => ⟨_, _, e⟩, q _ fun i k v e => ?_⟩⟩
      obtain ⟨en, qa, q1, q2, q3, _⟩ := ent i k v e
      unfold bsOf
      rw [q1]
      simp only [q2]
      exact q3
  obtain ⟨es, ep, hs, hgd, hx, hdt, tr⟩ := raw
  have rw1 : DT.Raw s1.heap d es ep := ⟨od, hgd, hx, hdt⟩
  refine ⟨rw1.typeIs, fun a z => by cases z; exact ⟨od, hgd, hx.2.1⟩, ?_⟩
  have I2 : Inv X pins σ H1 { s1 with heap := s1.heap.push { cls := .type "dict_items", data := .fields #[.ref d] } } := I1.kept (t' := s1.toks) fun b ob q => Heap.get?_push_of_some _ q
  have ld : d < s1.heap.objs.size := Heap.lt_size hgd
  have fin : wpAny (model X.prog X.w) X.A (pyIter (.ref s1.heap.objs.size)) (PIE X pins σ (.Tuple elts kk tpos) R) X.xe { s1 with heap := s1.heap.push { cls := .type "dict_items", data := .fields #[.ref d] } } := by
    obtain ⟨J, tn, T, st, q⟩ := tr ((s1.heap.push { cls := .type "dict_items", data := .fields #[.ref d] }).objs.size) (Nat.ne_of_lt (Nat.lt_of_lt_of_le ld (by rw [Heap.size_push]; exact Nat.le_succ _)))
    refine DT.iterI (d := d) (es := es) (ep := ep) ⟨_, Heap.get?_push_size _ rfl, rfl, rfl⟩ (rw1.push _) (pi_one (tk := s1.toks) I2 _ T (st _ (Heap.get?_push_size _ rfl)) q)
  show wpAny _ _ (callWith cpos (.builtin "dict.items") [.ref d] [] []) _ X.xe s1
  exact method_meetsIn F.slot_dict_items F.entry_dict_items rfl (PySem.evalArgs_none ⟨rfl, rw1.typeIs, F.args_dict_items_1 _, _, DT.meetsItems (es := es) (ep := ep) hs, rw1, fin⟩)
end
end Iv
set_option Elab.async false
set_option linter.all false
set_option maxRecDepth 100000
set_option maxHeartbeats 2000000
namespace Iv
open PySem L2 PyProof.Rows
variable [Cst]
theorem psOr {X : Cx} {st : Stmt} {t u : TS} (h : PS X st t) (h2 : PS X st u) : PS X st (fun D σ H => t D σ H ∨ u D σ H) := ⟨fun pins s σ H D I q => q.elim (h.run pins s σ H D I) (h2.run pins s σ H D I)⟩
def mForD (i : Nat) (f : List (Dt × Dt) → List Dt) (b : MB) (body : MS) : MS := fun τ => match τ[i]? with
  | some (.ow io (.dict kvs)) => (forL b body (f kvs) (τ.set i (.lo io (.dict kvs)))).bind fun q => (unlockI i q.2).map fun τ' => (q.1, τ')
  | some (.lo _ (.dict kvs)) => forL b body (f kvs) τ
  | some (.sh (.dict kvs)) => forL b body (f kvs) τ
  | _ => none
section
variable {K : PySem.W.Frag} {O : AS} {H : Hp}
theorem rpK_row : ∀ {ks : List (Key × V)} {ds : List (Dt × Dt)}, RpK K O H ks ds → ∀ (i : Nat) e, (itemsL ds)[i]? = some e → ∃ es, e = .tuple es ∧ RpL K O H (rowK ks i) es
  | _, _, .nil, i, e, h => by simp [itemsL] at h
  | _, _, .cons (k := k) (v := v) (d := d) r1 r2, 0, e, h => by
    simp [itemsL] at h
    subst h
    refine ⟨_, rfl, ?_⟩
    simp only [rowK, List.getElem?_cons_zero]
    exact .cons (by cases k; exact .int _; exact .str _) (.cons r1 .nil)
  | _, _, .cons r1 r2, i + 1, e, h => by
    obtain ⟨es, h1, h2⟩ := rpK_row r2 i e (by simpa [itemsL] using h)
    exact ⟨es, h1, by simpa only [rowK, List.getElem?_cons_succ] using h2⟩
theorem rpKey : ∀ (k : List Key), RpL K O H (k.map kV) (k.map kD)
  | [] => .nil
  | k :: ks => .cons (by cases k; exact .int _; exact .str _) (rpKey ks)
theorem rpT_row : ∀ {ks : List (List Key × V)} {ds : List (Dt × Dt)}, RpT K O H ks ds → ∀ (bs : Nat → Addr), (∀ (i : Nat) k v, ks[i]? = some (k, v) → H (bs i) = some (.tup (k.map kV))) → ∀ (i : Nat) e, (itemsL ds)[i]? = some e → ∃ es, e = .tuple es ∧ RpL K O H (rowT bs ks i) es
  | _, _, .nil, bs, hb, i, e, h => by simp [itemsL] at h
  | _, _, .cons (k := k) (v := v) (d := d) r1 r2, bs, hb, 0, e, h => by
    simp [itemsL] at h
    subst h
    refine ⟨_, rfl, ?_⟩
    simp only [rowT, List.getElem?_cons_zero]
    exact .cons (.tup (hb 0 k v rfl) (rpKey k)) (.cons r1 .nil)
  | _, _, .cons r1 r2, bs, hb, i + 1, e, h => by
    obtain ⟨es, h1, h2⟩ := rpT_row r2 (fun j => bs (j + 1)) (fun j k v q => hb (j + 1) k v (by simpa using q)) i e (by simpa [itemsL] using h)
    exact ⟨es, h1, by simpa only [rowT, List.getElem?_cons_succ] using h2⟩
end
section
variable {X : Cx} {is : List Nat} {b : MB} {mb : MS} {E : AS} {τ τ1 τ2 τ' : Tau} {σ : L2.St} {H : Hp} {o1 : Out} {D : Ends} {a : Addr} {i : Nat} {kvs : List (Dt × Dt)}
theorem dict_loop (S : SRep X.K E τ1 σ H) (hva : σ[i]? = some (some (.ref a))) (hd : (∃ ks, Rd H a (.dK ks) ∧ RpK X.K (Av E τ1 σ) H ks kvs) ∨ ∃ ks, Rd H a (.dT ks) ∧ RpT X.K (Av E τ1 σ) H ks kvs) (nm : ¬ Om τ1 σ a)
    (h2 : forL b mb (itemsL kvs) τ1 = some (o1, τ2)) (k : SOut X.K E τ1 σ H o1 τ2 D) : tLock (tFor (iItm (tVar i)) (gOf X.K is b) (sOf X.K mb)) D σ H ∨ tFor (iItm (tVar i)) (gOf X.K is b) (sOf X.K mb) D σ H := by
  have no : ∀ (j : Nat) io c, τ1[j]? = some (.ow io c) → σ[j]? ≠ some (some (.ref a)) := fun j io c q z => nm ⟨j, io, c, q, z⟩
  have ll : (itemsL kvs).length = kvs.length := List.length_map ..
  have core : ∀ {H0 : Hp} {od : Obj} {D : Ends}, SRep X.K E τ1 σ H0 → ((∃ ks, H0 a = some (.frz od (.dK ks)) ∧ RpK X.K (Av E τ1 σ) H0 ks kvs) ∨ ∃ ks, H0 a = some (.frz od (.dT ks)) ∧ RpT X.K (Av E τ1 σ) H0 ks kvs) → SOut X.K E τ1 σ H0 o1 τ2 D → tFor (iItm (tVar i)) (gOf X.K is b) (sOf X.K mb) D σ H0 := by
    intro H0 od D S0 hd0 k0
    refine ⟨.ref a, hva, a, od, rfl, ?_⟩
    rcases hd0 with ⟨ks, r, rp⟩ | ⟨ks, r, rp⟩
    · exact .inl ⟨ks, r, for_core (walkD_rows (by rw [ll, rpK_len rp]) (fun H' ex => ex.keep a (.frz od (.dK ks)) nm trivial r) (rpK_row rp)) S0 h2 k0⟩
    · exact .inr ⟨ks, r, fun bs hb => for_core (walkD_rows (by rw [ll, rpT_len rp]) (fun H' ex => ex.keep a (.frz od (.dT ks)) nm trivial r) (rpT_row rp bs hb)) S0 h2 k0⟩
  rcases hd with ⟨ks, r | ⟨od, r⟩, rp⟩ | ⟨ks, r | ⟨od, r⟩, rp⟩
  · have wk := fun od => wk_frz (od := od) (H := H) (d := a) (u := .dK ks) r (fun _ z => nomatch z) fun _ _ z => nomatch z
    exact .inl ⟨a, _, r, trivial, fun od => core (S.retag (wk od) (by rw [r]; simp) (fun v z => by rw [r] at z; cases z; trivial) trivial no) (.inl ⟨ks, upd_same, rp.mono (wk od _) fun _ z => .inl z⟩) (k.unfrz r trivial nm)⟩
  · exact .inr (core S (.inl ⟨ks, r, rp⟩) k)
  · have wk := fun od => wk_frz (od := od) (H := H) (d := a) (u := .dT ks) r (fun _ z => nomatch z) fun _ _ z => nomatch z
    exact .inl ⟨a, _, r, trivial, fun od => core (S.retag (wk od) (by rw [r]; simp) (fun v z => by rw [r] at z; cases z; trivial) trivial no) (.inr ⟨ks, upd_same, rp.mono (wk od _) fun _ z => .inl z⟩) (k.unfrz r trivial nm)⟩
  · exact .inr (core S (.inr ⟨ks, r, rp⟩) k)
/-- the end of a locked loop -/
theorem unlock_end {io : Bool} {c : Dt} (S : SRep X.K E τ σ H) (e : τ[i]? = some (.ow io c)) (h : unlockI i τ2 = some τ') (k : SOut X.K E τ σ H o1 τ' D) : SOut X.K E (τ.set i (.lo io c)) σ H o1 τ2 D := by
  have hl : lockI i τ = some (τ.set i (.lo io c)) := by unfold lockI; rw [e]
  have hi := (List.getElem?_eq_some_iff.mp e).1
  obtain ⟨S1, hO, hM, io', c', a, e', et, hva, w⟩ := S.lock hl
  rw [e] at e'
  cases e'
  have P : PostW X.K E τ σ H (rangeD 0 0) (some i) (τ.set i (.lo io c)) (Itr 0 0) H := by
    refine ⟨.refl, hO, hM, fun j d q => ?_, fun j io2 d q => ?_, S1, fun j hj => ?_, walkD_ints, ⟨τ, .refl, (fun z => nomatch z), fun j hj => (by cases hj; exact hl)⟩⟩
    · by_cases hj : i = j
      · subst hj
        rw [e] at q
        cases q
        exact .inr ⟨rfl, _, List.getElem?_set_self hi⟩
      · exact .inl ⟨fun z => hj (Option.some.inj z), d, by rw [List.getElem?_set_ne hj]; exact q⟩
    · have hj : i ≠ j := fun z => by subst z; rw [e] at q; cases q
      exact ⟨by rw [List.getElem?_set_ne hj]; exact q, fun z => hj (Option.some.inj z)⟩
    · cases hj
      exact ⟨io, c, c, a, e, List.getElem?_set_self hi, hva, w⟩
  cases o1 with
  | nx =>
    intro σ2 H2 Q S2
    obtain ⟨Q3, S3, _⟩ := end_walk P Q S2 (fun _ z => .inl (.inl z)) h
    exact k σ2 H2 Q3 S3
  | bk =>
    intro σ2 H2 Q S2
    obtain ⟨Q3, S3, _⟩ := end_walk P Q S2 (fun _ z => .inl (.inl z)) h
    exact k σ2 H2 Q3 S3
  | ct =>
    intro σ2 H2 Q S2
    obtain ⟨Q3, S3, _⟩ := end_walk P Q S2 (fun _ z => .inl (.inl z)) h
    exact k σ2 H2 Q3 S3
  | rt d fr =>
    intro σ2 H2 v Q r
    cases fr with
    | false =>
      obtain ⟨S2, rp⟩ := r
      obtain ⟨Q3, S3, sub⟩ := end_walk P Q S2 (fun _ z => .inl (.inl z)) h
      exact k σ2 H2 v Q3 ⟨S3, rp.mono (Ext.refl (O := Av E τ' σ2)).wk fun a z => .inl (z.elim .inl fun z => .inr (sub a z))⟩
    | true =>
      obtain ⟨p, ev, nE, q, S2, w⟩ := r
      obtain ⟨Q3, S3, sub⟩ := end_walk P Q S2 (fun a z => z.elim (fun z => .inl (.inl z)) fun z => by
        rw [z]
        exact q.elim (fun q => .inl (.inr q)) .inr) h
      refine k σ2 H2 v Q3 ⟨p, ev, nE, ?_, S3, w.av fun a z => z.elim .inl fun z => .inr (sub a z)⟩
      rcases q with q | q
      · exact .inl (P.os p q)
      · exact .inr (none_back P.ext q)
end
theorem rt_dictE {K : PySem.W.Frag} {O : AS} {H : Hp} {a : Addr} {kvs : List (Dt × Dt)} (h : Rt K O H (.ref a) (.dict kvs)) : (∃ ks, Rd H a (.dK ks) ∧ RpK K O H ks kvs) ∨ ∃ ks, Rd H a (.dT ks) ∧ RpT K O H ks kvs := by
  obtain ⟨b, e, h⟩ := rt_dict h
  cases e
  exact h
section
variable {X : Cx} {body : List Stmt} {is : List Nat} {b : MB} {mb : MS} {pos p apos cpos tpos : Pos} {x : Str} {i : Nat} {elts : List Expr} {kk : Nat}
/-- for k, v in x.items() -/
theorem ss_forItems (hp : PassesOwn (model X.prog X.w) X.A X.env X.xe) (hc : X.calm = true) (hN : X.N[i]? = some x) (hv : Vis X.env.scope x) (hg : SG X (.Tuple elts kk tpos) is b) (hb : SB X body mb)
    (hd : (x == ("__debug__" : Str)) = false := by decide) (hcd : (x == ("__classdict__" : Str)) = false := by decide)
    (hs : ∀ v, foldedSetIterable (.Call (.Attribute (.Name x p) "items" apos) [] [] cpos) X.env v = pure v := by intro _; rfl)
    (hbase : attributeBase (.Name x p) "items" X.env (eval (.Name x p) X.env) = eval (.Name x p) X.env := by rfl) (hline : (apos.endLine == cpos.line) = true := by rfl) :
    SS X (.For (.Tuple elts kk tpos) (.Call (.Attribute (.Name x p) "items" apos) [] [] cpos) body [] pos) (mForD i itemsL b mb) := by
  have base := ps_for hp hc (pi_itm (elts := elts) (kk := kk) (tpos := tpos) (pe_var hN hv hd hcd) hbase hline) hg.pg hb.pss (pos := pos) hs
  refine ⟨psW (psOr (ps_lock base) base) fun D σ H h => ?_⟩
  obtain ⟨E, τ, o, τ', S, hm, k⟩ := h
  unfold mForD at hm
  split at hm
  · rename_i io kvs e
    simp only [Option.bind_eq_some_iff, Option.map_eq_some_iff] at hm
    obtain ⟨⟨o1, τ2⟩, h2, τ3, h3, h4⟩ := hm
    cases h4
    have hl : lockI i τ = some (τ.set i (.lo io (.dict kvs))) := by unfold lockI; rw [e]
    obtain ⟨S1, hO, hM, io', c', a, e', et, hva, w⟩ := S.lock hl
    rw [e] at e'
    cases e'
    have hi := (List.getElem?_eq_some_iff.mp e).1
    refine dict_loop S1 hva (rt_dictE w.rt) (fun ⟨j, io2, d2, z1, z2⟩ => ?_) h2 (unlock_end S e h3 k)
    have ej := S1.inj j i _ _ a z1 (List.getElem?_set_self hi) rfl rfl z2 hva
    subst ej
    rw [List.getElem?_set_self hi] at z1
    cases z1
  · rename_i io kvs e
    obtain ⟨a, hva, nE, nn, nt, r⟩ := S.lo i io _ e
    refine dict_loop S hva (rt_dictE r) (fun ⟨j, io2, d2, z1, z2⟩ => ?_) hm k
    have ej := S.inj j i _ _ a z1 e rfl rfl z2 hva
    subst ej
    rw [e] at z1
    cases z1
  · rename_i kvs e
    obtain ⟨v, hva, r⟩ := S.sh i _ e
    obtain ⟨a, rfl, _⟩ := rt_dict (.rp r)
    refine dict_loop S hva (rt_dictE (.rp r)) (fun z => ?_) hm k
    cases r with
    | dK n _ _ => exact n (.inr (om_os z))
    | dT n _ _ => exact n (.inr (om_os z))
  · cases hm
end
end Iv
set_option Elab.async false
set_option linter.all false
set_option maxRecDepth 100000
set_option maxHeartbeats 2000000
namespace Iv
open PySem L2 PyProof.Rows
variable [Cst]
/-! ### a sign, x op= e -/
def dNeg : Dt → Option Rs
  | .int i => some (.v (.int (-i)))
  | _ => none
def aAdd : Dt → Dt → Option Dt
  | .int i, .int j => some (.int (i + j))
  | _, _ => none
def aSub : Dt → Dt → Option Dt
  | .int i, .int j => some (.int (i - j))
  | _, _ => none
section
variable {X : Cx}
theorem ov_neg : UnR X (unaryOp .USub) (rUn X.K dNeg) := by
  intro pins s σ H x v Q I rx h
  obtain ⟨O, d, z, hO, hd, hz, q⟩ := h
  unfold dNeg at hz
  split at hz
  · cases hz
    rw [rt_int hd] at rx
    exact un_neg pins s σ H _ v Q I rx ⟨_, rfl, q _ H .refl (.int _)⟩
  · cases hz
theorem iv_add : PIp X .Add (rAug X.K aAdd) := by
  intro pins s σ H x y v u Q I rx ry h
  obtain ⟨O, d, e, z, hO, hd, he, hz, q⟩ := h
  unfold aAdd at hz
  split at hz
  · cases hz
    rw [rt_int hd] at rx
    rw [rt_int he] at ry
    exact ip_add pins s σ H _ _ v u Q I rx ry ⟨_, _, rfl, rfl, q _ H .refl (.int _)⟩
  · cases hz
theorem iv_sub : PIp X .Sub (rAug X.K aSub) := by
  intro pins s σ H x y v u Q I rx ry h
  obtain ⟨O, d, e, z, hO, hd, he, hz, q⟩ := h
  unfold aSub at hz
  split at hz
  · cases hz
    rw [rt_int hd] at rx
    rw [rt_int he] at ry
    exact ip_sub pins s σ H _ _ v u Q I rx ry ⟨_, _, rfl, rfl, q _ H .refl (.int _)⟩
  · cases hz
end
/-! ### defs by name -/
/-- what the module holds of a def -/
structure DefG (K : PySem.W.Frag) (mg : Str → Option Value) (x : Str) (ps : List Str) (st : Stmt) : Prop where
  ex : ∃ (f : Addr) (fd : FuncData), Fun K x x st f fd ∧ mg x = some (.ref f) ∧ Binds K fd ps []
/-- .. and what it does -/
structure CalG (P : Program) (w : World) (K : PySem.W.Frag) (mg : Str → Option Value) (base : Heap) (k : Nat) (x : Str) (ps : List Str) (g : M (Dt × Bool)) : Prop where
  ex : ∃ (f : Addr) (fd : FuncData), FnG P w K mg base CX0 k f fd ps (spG K ps.length g) ∧ mg x = some (.ref f) ∧ PySem.W.keepIn K (.ref f) = true ∧ Binds K fd ps []
/-- room within a def -/
structure Rm (X : Cx) (k : Nat) : Prop where
  hG : X.A.guards = some []
  hr : Room k X.A
theorem Rm.hu {X : Cx} {k : Nat} (r : Rm X k) : X.A.units + 64 < cLine := by have := r.hr.un; omega
theorem Rm.hu5 {X : Cx} {k : Nat} (r : Rm X k) : X.A.units + 65 < cLine := by have := r.hr.un; omega
theorem Rm.blk {X : Cx} {k : Nat} (r : Rm X k) {s : Shared} {H : Hp} {scope : Scope} {env : Env} {fp : List Addr} : Rm (X.blk s H scope env fp) k := ⟨r.hG, r.hr⟩
section
variable {P : Program} {w : World} {K : PySem.W.Frag} {mg : Str → Option Value} {base : Heap} {k : Nat} {x : Str} {st : Stmt} {N ps : List Str} {mb : MS}
theorem calG_of (D : DefG K mg x ps st) (S : FnScope N ps (defScope st))
    (hbody : ∀ (f : Addr) (cdv : Value) (A : Around) (outer : List Env) (s : Shared) (H : Hp) (E : XK), Rm (cxOf CX0 P w K mg base N x (defScope st) f cdv A outer s H E).nox k → SB (cxOf CX0 P w K mg base N x (defScope st) f cdv A outer s H E).nox (defBody st) mb) : CalG P w K mg base (k + 1) x ps (gFn ps.length N.length mb) := by
  obtain ⟨f, fd, F, hm, hb⟩ := D.ex
  exact ⟨f, fd, fnG_of F S rfl rfl fun cdv A outer s H E hG hr => hbody f cdv A outer s H E ⟨hG, hr⟩, hm, F.kp, hb⟩
end
section
variable {X : Cx} {j k : Nat} {ps : List Str} {g : M (Dt × Bool)} {x : Str} {p pos : Pos} {e : Expr} {es : List Expr} {ma : M (List Rs)}
theorem se_callG (C : CalG X.prog X.w X.K X.mg X.base j x ps g) (R : Rm X k) (hjk : j ≤ k) (hg : Gl X x) (ha : SA X (e :: es) ma) (io : Option Nat)
    (hdb : (x == ("__debug__" : Str)) = false := by decide) (he : starEach (e :: es) X.env = (false, eval e X.env) :: starEach es X.env := by rfl) (hpl : (backTo pos (starEach es X.env)).any (·.1) = false := by rfl) :
    SE X (.Call (.Name x p) (e :: es) [] pos) (mCallF ps.length g io ma) := by
  obtain ⟨f, fd, F, hm, hk, hb⟩ := C.ex
  exact se_call (F.mono hjk) R.hG R.hr hg hm hk hb ha io hdb he hpl
end
/-- a module's whole number -/
theorem se_gint {X : Cx} {x : Str} {i : Int} {pos : Pos} (h : ∃ t, X.mg x = some (.int i t)) (hg : Gl X x) (hd : (x == ("__debug__" : Str)) = false := by decide) : SE X (.Name x pos) (mK (.int i)) := by
  obtain ⟨t, h⟩ := h
  exact se_glob hg h (v := .int i) ⟨t, rfl⟩ (fun _ _ => .int i) hd
/-! ### the law -/
theorem tabs_only {H : Hp} (h : L2.Only H) : Tabs H := by
  intro P ps hP
  rcases h P with z | ⟨ob, xs, z⟩
  · rw [z] at hP; cases hP
  · rw [z] at hP; cases hP
/-- the law's list comes; its term gives True -/
theorem want_of {K : PySem.W.Frag} {g : M (Dt × Bool)} {H : Hp} {a : Addr} {ns : List Int} (tb : Tabs H) (hS : Ls K H a (ns.map V.int)) (hg : ∃ τ1, g [.sh (.list (ns.map .int))] = some ((.bool true, false), τ1)) : spG K 1 g [.ref a] H (fun v _ => v = .bl true) E0 := by
  obtain ⟨τ1, hg⟩ := hg
  have rl : ∀ (O : AS) (ns : List Int), RpL K O H (ns.map V.int) (ns.map PyData.int) := fun O ns => by
    induction ns with
    | nil => exact .nil
    | cons n ns ih => exact .cons (.int n) ih
  have nO : ∀ x, ¬ Av (fun _ => False) [Sl.sh (.list (ns.map PyData.int))] ([V.ref a].map some) x := fun x z => by
    rcases z with z | ⟨i, s, z1, z2, _⟩
    · exact z
    · cases i with
      | zero => simp at z1; subst z1; cases z2
      | succ i => simp at z1
  have r : Rp K (Av (fun _ => False) [Sl.sh (.list (ns.map PyData.int))] ([V.ref a].map some)) H (.ref a) (.list (ns.map PyData.int)) := by
    rcases hS with q | q
    · exact .lst (nO a) q (rl _ ns)
    · exact .lsk q (rl _ ns)
  refine ⟨rfl, fun _ => False, _, .bool true, false, τ1, ⟨rfl, fun _ z => z.elim, tb, fun i d q => ?_, fun i io d q => ?_, fun i io d q => ?_, fun i b q => by (cases i with | zero => simp at q | succ i => simp at q), fun i j s t b q1 q2 q3 q4 q5 q6 => ?_⟩, fun k s q => ?_, hg, fun v H' C => rt_bool (.rp C.ret.2)⟩
  · cases i with
    | zero => simp at q; subst q; exact ⟨_, rfl, r⟩
    | succ i => simp at q
  · cases i with
    | zero => simp at q
    | succ i => simp at q
  · cases i with
    | zero => simp at q
    | succ i => simp at q
  · cases i with
    | zero => simp at q1; subst q1; cases q3
    | succ i => simp at q1
  · cases k with
    | zero => simp at q; subst q; rfl
    | succ i => simp at q
theorem calG_run {P : Program} {w : World} {K : PySem.W.Frag} {mg : Str → Option Value} {base : Heap} {k : Nat} {x y : Str} {g : M (Dt × Bool)} {fa : Addr} (C : CalG P w K mg base k x [y] g) (h : mg x = some (.ref fa)) : ∃ fd : FuncData, FnG P w K mg base CX0 k fa fd [y] (spG K 1 g) ∧ Binds K fd [y] [] := by
  obtain ⟨f, fd, F, hm, hk, hb⟩ := C.ex
  rw [h] at hm
  cases hm
  exact ⟨fd, F, hb⟩
end Iv
set_option Elab.async false
set_option linter.all false
set_option maxRecDepth 100000
set_option maxHeartbeats 2000000
namespace Iv
open PySem L2 PyProof.Rows
variable [Cst]
/-! ### reckoning with the terms, the first part first -/
abbrev OR := Option (Rs × Tau)
section
variable (τ τ1 : Tau) (i j n : Nat) (m ma mb mc me : M Rs) (t ta tb tc : M Bool) (es : M (List Rs)) (a b : MS) (f g : Dt → Dt → Option Rs) (d e : Dt) (r r2 : Rs) (rs : List Rs) (c : Bool)
def kOut : Option Rs → Tau → OR
  | some z, τ => some (z, τ)
  | none, _ => none
@[simp] theorem kOut_s (z : Rs) : kOut (some z) τ = some (z, τ) := (rfl)
def kName : Option Sl → Nat → Tau → OR
  | some (.sh d), _, τ => some (.v d, τ)
  | some (.ow _ _), i, τ => some (.sl i, τ)
  | some (.lo _ _), i, τ => some (.sl i, τ)
  | _, _, _ => none
@[simp] theorem e_name : mName i τ = kName τ[i]? i τ := by
  unfold mName
  cases h : τ[i]? with
  | none => rfl
  | some u => cases u <;> rfl
@[simp] theorem kName_1 : kName (some (.sh d)) i τ = some (.v d, τ) := (rfl)
@[simp] theorem kName_2 : kName (some (.ow c d)) i τ = some (.sl i, τ) := (rfl)
@[simp] theorem kName_3 : kName (some (.lo c d)) i τ = some (.sl i, τ) := (rfl)
@[simp] theorem e_K : mK d τ = some (.v d, τ) := (rfl)
@[simp] theorem e_dv : deref (.v d) τ = some d := (rfl)
@[simp] theorem e_dn : deref (.nw d) τ = some d := (rfl)
def kData : Option Sl → Option Dt
  | some s => s.data
  | none => none
@[simp] theorem e_ds : deref (.sl i) τ = kData τ[i]? := by
  show slD τ i = _
  unfold slD
  cases τ[i]? <;> rfl
@[simp] theorem kData_1 : kData (some (.sh d)) = some d := (rfl)
@[simp] theorem kData_2 : kData (some (.ow c d)) = some d := (rfl)
@[simp] theorem kData_3 : kData (some (.lo c d)) = some d := (rfl)
@[simp] theorem e_kv : Rs.keep (.v d) = .v d := (rfl)
@[simp] theorem e_kn : Rs.keep (.nw d) = .v d := (rfl)
@[simp] theorem e_ks : Rs.keep (.sl i) = .sl i := (rfl)
/-! two values -/
def kB1 (f : Dt → Dt → Option Rs) (mb : M Rs) : OR → OR
  | some (ra, τ) => (mb τ).bind fun q => (deref ra q.2).bind fun d => (deref q.1 q.2).bind fun e => (f d e).map fun z => (z, q.2)
  | none => none
def kB2 (f : Dt → Dt → Option Rs) (ra : Rs) : OR → OR
  | some (rb, τ) => (deref ra τ).bind fun d => (deref rb τ).bind fun e => (f d e).map fun z => (z, τ)
  | none => none
def kB3 (f : Dt → Dt → Option Rs) : Option Dt → Option Dt → Tau → OR
  | some d, some e, τ => kOut (f d e) τ
  | _, _, _ => none
@[simp] theorem e_bin : mBin f ma mb τ = kB1 f mb (ma τ) := by unfold mBin; cases ma τ <;> rfl
@[simp] theorem kB1_s : kB1 f mb (some (r, τ)) = kB2 f r (mb τ) := by show (mb τ).bind _ = _; cases mb τ <;> rfl
@[simp] theorem kB2_s : kB2 f r (some (r2, τ)) = kB3 f (deref r τ) (deref r2 τ) τ := by
  show (deref r τ).bind _ = _
  cases deref r τ with
  | none => rfl
  | some d => cases h2 : deref r2 τ with
    | none => simp [kB3, h2]
    | some e => cases h3 : f d e <;> simp [kB3, kOut, h2, h3]
@[simp] theorem kB3_s : kB3 f (some d) (some e) τ = kOut (f d e) τ := (rfl)
def kU (f : Dt → Option Rs) : OR → OR
  | some (r, τ) => (deref r τ).bind fun d => (f d).map fun z => (z, τ)
  | none => none
def kU2 (f : Dt → Option Rs) : Option Dt → Tau → OR
  | some d, τ => kOut (f d) τ
  | none, _ => none
@[simp] theorem e_un (f : Dt → Option Rs) : mUn f ma τ = kU f (ma τ) := by unfold mUn; cases ma τ <;> rfl
@[simp] theorem kU_s (f : Dt → Option Rs) : kU f (some (r, τ)) = kU2 f (deref r τ) τ := by
  show (deref r τ).bind _ = _
  cases deref r τ with
  | none => rfl
  | some d => cases h3 : f d <;> simp [kU2, kOut, h3]
@[simp] theorem kU2_s (f : Dt → Option Rs) : kU2 f (some d) τ = kOut (f d) τ := (rfl)
/-! arguments -/
abbrev OA := Option (List Rs × Tau)
def kA1 (es : M (List Rs)) : OR → OA
  | some (r, τ) => (es τ).map fun q => (r.keep :: q.1, q.2)
  | none => none
def kA2 (r : Rs) : OA → OA
  | some (rs, τ) => some (r :: rs, τ)
  | none => none
@[simp] theorem e_A0 : mA0 τ = some ([], τ) := (rfl)
@[simp] theorem e_A : mA ma es τ = kA1 es (ma τ) := by unfold mA; cases ma τ <;> rfl
@[simp] theorem kA1_s : kA1 es (some (r, τ)) = kA2 r.keep (es τ) := by show (es τ).map _ = _; cases es τ <;> rfl
@[simp] theorem kA2_s : kA2 r (some (rs, τ)) = some (r :: rs, τ) := (rfl)
abbrev OD := Option (List Dt)
def kD1 : Option Dt → OD → OD
  | some d, some ds => some (d :: ds)
  | _, _ => none
@[simp] theorem e_dr0 : derefs [] τ = some [] := (rfl)
@[simp] theorem e_dr1 : derefs (r :: rs) τ = kD1 (deref r τ) (derefs rs τ) := by
  show (deref r τ).bind _ = _
  cases deref r τ with
  | none => rfl
  | some d => cases derefs rs τ <;> rfl
@[simp] theorem kD1_s (ds : List Dt) : kD1 (some d) (some ds) = some (d :: ds) := (rfl)
def kC1 (f : List Dt → Option Rs) : OA → OR
  | some (rs, τ) => (derefs rs τ).bind fun ds => (f ds).map fun z => (z, τ)
  | none => none
def kC2 (f : List Dt → Option Rs) : OD → Tau → OR
  | some ds, τ => kOut (f ds) τ
  | none, _ => none
@[simp] theorem e_call (f : List Dt → Option Rs) : mCall f es τ = kC1 f (es τ) := by unfold mCall; cases es τ <;> rfl
@[simp] theorem kC1_s (f : List Dt → Option Rs) : kC1 f (some (rs, τ)) = kC2 f (derefs rs τ) τ := by
  show (derefs rs τ).bind _ = _
  cases derefs rs τ with
  | none => rfl
  | some d => cases h3 : f d <;> simp [kC2, kOut, h3]
@[simp] theorem kC2_s (f : List Dt → Option Rs) (ds : List Dt) : kC2 f (some ds) τ = kOut (f ds) τ := (rfl)
/-! tests -/
abbrev OB := Option (Bool × Tau)
def kBo : Option Bool → Tau → OB
  | some b, τ => some (b, τ)
  | none, _ => none
@[simp] theorem kBo_s : kBo (some c) τ = some (c, τ) := (rfl)
def kTr : OR → OB
  | some (r, τ) => (deref r τ).bind fun d => (dTruth d).map fun b => (b, τ)
  | none => none
def kTr2 : Option Dt → Tau → OB
  | some d, τ => kBo (dTruth d) τ
  | none, _ => none
@[simp] theorem e_tru : mTruth m τ = kTr (m τ) := by unfold mTruth; cases m τ <;> rfl
@[simp] theorem kTr_s : kTr (some (r, τ)) = kTr2 (deref r τ) τ := by
  show (deref r τ).bind _ = _
  cases deref r τ with
  | none => rfl
  | some d => cases h3 : dTruth d <;> simp [kTr2, kBo, h3]
@[simp] theorem kTr2_s : kTr2 (some d) τ = kBo (dTruth d) τ := (rfl)
def kFl : OR → OB
  | some (.v (.bool b), τ) => some (b, τ)
  | _ => none
@[simp] theorem e_flag : mFlag m τ = kFl (m τ) := by
  unfold mFlag
  cases m τ with
  | none => rfl
  | some p =>
    obtain ⟨r, τ⟩ := p
    cases r with
    | v d => cases d <;> rfl
    | _ => rfl
@[simp] theorem kFl_s : kFl (some (.v (.bool c), τ)) = some (c, τ) := (rfl)
def kCh1 (f g : Dt → Dt → Option Rs) (mb mc : M Rs) : OR → OR
  | some (ra, τ) => (mb τ).bind fun q => (deref ra q.2).bind fun d => (deref q.1 q.2).bind fun e => match f d e with
    | some (.v (.bool true)) => (mc q.2).bind fun r => (deref q.1 r.2).bind fun e' => (deref r.1 r.2).bind fun h => (g e' h).map fun z => (z, r.2)
    | some (.v (.bool false)) => some (.v (.bool false), q.2)
    | _ => none
  | none => none
def kCh2 (f g : Dt → Dt → Option Rs) (ra : Rs) (mc : M Rs) : OR → OR
  | some (rb, τ) => (deref ra τ).bind fun d => (deref rb τ).bind fun e => match f d e with
    | some (.v (.bool true)) => kB2 g rb (mc τ)
    | some (.v (.bool false)) => some (.v (.bool false), τ)
    | _ => none
  | none => none
def kCh3 (f g : Dt → Dt → Option Rs) (rb : Rs) (mc : M Rs) : Option Dt → Option Dt → Tau → OR
  | some d, some e, τ => (match f d e with
    | some (.v (.bool true)) => kB2 g rb (mc τ)
    | some (.v (.bool false)) => some (.v (.bool false), τ)
    | _ => none)
  | _, _, _ => none
def kCh4 (g : Dt → Dt → Option Rs) (rb : Rs) (mc : M Rs) : Option Rs → Tau → OR
  | some (.v (.bool true)), τ => kB2 g rb (mc τ)
  | some (.v (.bool false)), τ => some (.v (.bool false), τ)
  | _, _ => none
@[simp] theorem e_chain : mChain f g ma mb mc τ = kCh1 f g mb mc (ma τ) := by unfold mChain; cases ma τ <;> rfl
@[simp] theorem kCh1_s : kCh1 f g mb mc (some (r, τ)) = kCh2 f g r mc (mb τ) := by
  show (mb τ).bind _ = _
  cases mb τ with
  | none => rfl
  | some q =>
    obtain ⟨rb, τ2⟩ := q
    show (deref r τ2).bind _ = (deref r τ2).bind _
    cases deref r τ2 with
    | none => rfl
    | some d =>
      show (deref rb τ2).bind _ = (deref rb τ2).bind _
      cases deref rb τ2 with
      | none => rfl
      | some e =>
        show (match f d e with | some (.v (.bool true)) => _ | some (.v (.bool false)) => _ | _ => none) = (match f d e with | some (.v (.bool true)) => _ | some (.v (.bool false)) => _ | _ => none)
        split
        · show (mc τ2).bind _ = _
          cases mc τ2 <;> rfl
        · rfl
        · rfl
@[simp] theorem kCh2_s : kCh2 f g r mc (some (r2, τ)) = kCh3 f g r2 mc (deref r τ) (deref r2 τ) τ := by
  show (deref r τ).bind _ = _
  cases deref r τ with
  | none => rfl
  | some d =>
    show (deref r2 τ).bind _ = _
    cases deref r2 τ <;> rfl
@[simp] theorem kCh3_s : kCh3 f g r mc (some d) (some e) τ = kCh4 g r mc (f d e) τ := by
  show (match f d e with | some (.v (.bool true)) => _ | some (.v (.bool false)) => _ | _ => none) = _
  cases f d e with
  | none => rfl
  | some z => cases z with
    | v d => cases d with
      | bool b => cases b <;> rfl
      | _ => rfl
    | _ => rfl
@[simp] theorem kCh4_t : kCh4 g r mc (some (.v (.bool true))) τ = kB2 g r (mc τ) := (rfl)
@[simp] theorem kCh4_f : kCh4 g r mc (some (.v (.bool false))) τ = some (.v (.bool false), τ) := (rfl)
def kAnd (tb : M Bool) : OB → OB
  | some (true, τ) => tb τ
  | some (false, τ) => some (false, τ)
  | none => none
def kOr (tb : M Bool) : OB → OB
  | some (true, τ) => some (true, τ)
  | some (false, τ) => tb τ
  | none => none
@[simp] theorem e_and : mAnd ta tb τ = kAnd tb (ta τ) := by
  unfold mAnd
  cases ta τ with
  | none => rfl
  | some p => obtain ⟨c, τ⟩ := p; cases c <;> rfl
@[simp] theorem e_or : mOr ta tb τ = kOr tb (ta τ) := by
  unfold mOr
  cases ta τ with
  | none => rfl
  | some p => obtain ⟨c, τ⟩ := p; cases c <;> rfl
@[simp] theorem kAnd_t : kAnd tb (some (true, τ)) = tb τ := (rfl)
@[simp] theorem kAnd_f : kAnd tb (some (false, τ)) = some (false, τ) := (rfl)
@[simp] theorem kOr_t : kOr tb (some (true, τ)) = some (true, τ) := (rfl)
@[simp] theorem kOr_f : kOr tb (some (false, τ)) = tb τ := (rfl)
def kNot : OB → OB
  | some (c, τ) => some (!c, τ)
  | none => none
@[simp] theorem e_not : mNot ta τ = kNot (ta τ) := by unfold mNot; cases ta τ <;> rfl
@[simp] theorem kNot_s : kNot (some (c, τ)) = some (!c, τ) := (rfl)
def kIfE (ma mb : M Rs) : OB → OR
  | some (true, τ) => ma τ
  | some (false, τ) => mb τ
  | none => none
@[simp] theorem e_ife : mIfE t ma mb τ = kIfE ma mb (t τ) := by
  unfold mIfE
  cases t τ with
  | none => rfl
  | some p => obtain ⟨c, τ⟩ := p; cases c <;> rfl
@[simp] theorem kIfE_t : kIfE ma mb (some (true, τ)) = ma τ := (rfl)
@[simp] theorem kIfE_f : kIfE ma mb (some (false, τ)) = mb τ := (rfl)
def kAndV (mb : M Rs) : OR → OR
  | some (.v (.bool true), τ) => mb τ
  | some (.v (.bool false), τ) => some (.v (.bool false), τ)
  | _ => none
def kOrV (mb : M Rs) : OR → OR
  | some (.v (.bool false), τ) => mb τ
  | some (.v (.bool true), τ) => some (.v (.bool true), τ)
  | _ => none
def kNotV : OR → OR
  | some (.v (.bool b), τ) => some (.v (.bool !b), τ)
  | _ => none
@[simp] theorem e_andV : mAndV ma mb τ = kAndV mb (ma τ) := by
  unfold mAndV
  cases ma τ with
  | none => rfl
  | some p =>
    obtain ⟨r, τ⟩ := p
    cases r with
    | v d => cases d with
      | bool b => cases b <;> rfl
      | _ => rfl
    | _ => rfl
@[simp] theorem e_orV : mOrV ma mb τ = kOrV mb (ma τ) := by
  unfold mOrV
  cases ma τ with
  | none => rfl
  | some p =>
    obtain ⟨r, τ⟩ := p
    cases r with
    | v d => cases d with
      | bool b => cases b <;> rfl
      | _ => rfl
    | _ => rfl
@[simp] theorem e_notV : mNotV ma τ = kNotV (ma τ) := by
  unfold mNotV
  cases ma τ with
  | none => rfl
  | some p =>
    obtain ⟨r, τ⟩ := p
    cases r with
    | v d => cases d <;> rfl
    | _ => rfl
@[simp] theorem kAndV_t : kAndV mb (some (.v (.bool true), τ)) = mb τ := (rfl)
@[simp] theorem kAndV_f : kAndV mb (some (.v (.bool false), τ)) = some (.v (.bool false), τ) := (rfl)
@[simp] theorem kOrV_t : kOrV mb (some (.v (.bool true), τ)) = some (.v (.bool true), τ) := (rfl)
@[simp] theorem kOrV_f : kOrV mb (some (.v (.bool false), τ)) = mb τ := (rfl)
@[simp] theorem kNotV_s : kNotV (some (.v (.bool c), τ)) = some (.v (.bool !c), τ) := (rfl)
/-! statements -/
abbrev OS := Option (Out × Tau)
@[simp] theorem e_nx : mNx τ = some (.nx, τ) := (rfl)
@[simp] theorem e_bk : mBk τ = some (.bk, τ) := (rfl)
@[simp] theorem e_ct : mCt τ = some (.ct, τ) := (rfl)
@[simp] theorem e_fail : mFail τ = none := (rfl)
def kSeq (b : MS) : OS → OS
  | some (.nx, τ) => b τ
  | some (o, τ) => some (o, τ)
  | none => none
@[simp] theorem e_seq : mSeq a b τ = kSeq b (a τ) := by
  unfold mSeq
  cases a τ with
  | none => rfl
  | some p => obtain ⟨o, τ⟩ := p; cases o <;> rfl
@[simp] theorem kSeq_1 : kSeq b (some (.nx, τ)) = b τ := (rfl)
@[simp] theorem kSeq_2 : kSeq b (some (.rt d c, τ)) = some (.rt d c, τ) := (rfl)
@[simp] theorem kSeq_3 : kSeq b (some (.bk, τ)) = some (.bk, τ) := (rfl)
@[simp] theorem kSeq_4 : kSeq b (some (.ct, τ)) = some (.ct, τ) := (rfl)
def kDrop : OR → OS
  | some (_, τ) => some (.nx, τ)
  | none => none
@[simp] theorem e_drop : mDrop m τ = kDrop (m τ) := by unfold mDrop; cases m τ <;> rfl
@[simp] theorem kDrop_s : kDrop (some (r, τ)) = some (.nx, τ) := (rfl)
def kIf (a b : MS) : OB → OS
  | some (true, τ) => a τ
  | some (false, τ) => b τ
  | none => none
@[simp] theorem e_if : mIf t a b τ = kIf a b (t τ) := by
  unfold mIf
  cases t τ with
  | none => rfl
  | some p => obtain ⟨c, τ⟩ := p; cases c <;> rfl
@[simp] theorem kIf_t : kIf a b (some (true, τ)) = a τ := (rfl)
@[simp] theorem kIf_f : kIf a b (some (false, τ)) = b τ := (rfl)
def kRet : OR → OS
  | some (.v d, τ) => some (.rt d false, τ)
  | some (.nw d, τ) => some (.rt d true, τ)
  | some (.sl i, τ) => (match τ[i]? with
    | some (.ow false d) => some (.rt d true, τ.set i .un)
    | some (.sh d) => some (.rt d false, τ)
    | _ => none)
  | none => none
def kRet2 : Option Sl → Nat → Tau → OS
  | some (.ow false d), i, τ => some (.rt d true, τ.set i .un)
  | some (.sh d), _, τ => some (.rt d false, τ)
  | _, _, _ => none
@[simp] theorem e_ret : mRet m τ = kRet (m τ) := by
  unfold mRet
  cases m τ with
  | none => rfl
  | some p => obtain ⟨r, τ⟩ := p; cases r <;> rfl
@[simp] theorem kRet_1 : kRet (some (.v d, τ)) = some (.rt d false, τ) := (rfl)
@[simp] theorem kRet_2 : kRet (some (.nw d, τ)) = some (.rt d true, τ) := (rfl)
@[simp] theorem kRet_3 : kRet (some (.sl i, τ)) = kRet2 τ[i]? i τ := by
  show (match τ[i]? with | some (.ow false d) => _ | some (.sh d) => _ | _ => none) = _
  cases τ[i]? with
  | none => rfl
  | some u => cases u with
    | ow c d => cases c <;> rfl
    | _ => rfl
@[simp] theorem kRet2_1 : kRet2 (some (.ow false d)) i τ = some (.rt d true, τ.set i .un) := (rfl)
@[simp] theorem kRet2_2 : kRet2 (some (.sh d)) i τ = some (.rt d false, τ) := (rfl)
@[simp] theorem e_retN : mRetN τ = some (.rt .none false, τ) := (rfl)
/-- a slot that may be stored into -/
def fr : Sl → Bool
  | .un => true
  | .sh _ => true
  | .ow false _ => true
  | _ => false
@[simp] theorem fr1 : fr .un = true := (rfl)
@[simp] theorem fr2 : fr (.sh d) = true := (rfl)
@[simp] theorem fr3 : fr (.ow false d) = true := (rfl)
def kS0 (i : Nat) (s : Sl) (τ : Tau) : Option Sl → Option Tau
  | some u => if fr u = true then some (τ.set i s) else none
  | none => none
@[simp] theorem e_setSl (s : Sl) : setSl i s τ = kS0 i s τ τ[i]? := by
  unfold setSl
  cases h : τ[i]? with
  | none => rfl
  | some u => cases u with
    | ow c d => cases c <;> rfl
    | _ => rfl
@[simp] theorem kS0_1 (s : Sl) : kS0 i s τ (some .un) = some (τ.set i s) := (rfl)
@[simp] theorem kS0_2 (s : Sl) : kS0 i s τ (some (.sh d)) = some (τ.set i s) := (rfl)
@[simp] theorem kS0_3 (s : Sl) : kS0 i s τ (some (.ow false d)) = some (τ.set i s) := (rfl)
@[simp] theorem kS0_4 (s u : Sl) (h : fr u = true) : kS0 i s τ (some u) = some (τ.set i s) := by
  show (if fr u = true then _ else _) = _
  rw [if_pos h]
def kNx : Option Tau → OS
  | some τ => some (.nx, τ)
  | none => none
@[simp] theorem kNx_s : kNx (some τ) = some (.nx, τ) := (rfl)
abbrev OV := Option (Dt × Tau)
def kShare : Option Sl → Nat → Tau → OV
  | some (.ow false d), i, τ => some (d, τ.set i (.sh d))
  | some (.sh d), _, τ => some (d, τ)
  | _, _, _ => none
@[simp] theorem e_sv : share (.v d) τ = some (d, τ) := (rfl)
@[simp] theorem e_sn : share (.nw d) τ = some (d, τ) := (rfl)
@[simp] theorem e_ss : share (.sl i) τ = kShare τ[i]? i τ := by
  show (slD τ i).bind _ = _
  unfold slD unown
  cases h : τ[i]? with
  | none => rfl
  | some u => cases u with
    | un => rfl
    | sh d => rfl
    | ow c d => cases c <;> rfl
    | lo c d => rfl
    | ad a => rfl
@[simp] theorem kShare_1 : kShare (some (.ow false d)) i τ = some (d, τ.set i (.sh d)) := (rfl)
@[simp] theorem kShare_2 : kShare (some (.sh d)) i τ = some (d, τ) := (rfl)
def kSet (i : Nat) : OR → OS
  | some (r, τ) => storeR i r τ
  | none => none
def kSet2 (i : Nat) : OV → OS
  | some (d, τ) => kNx (setSl i (.sh d) τ)
  | none => none
@[simp] theorem e_set : mSet i m τ = kSet i (m τ) := by unfold mSet; cases m τ <;> rfl
@[simp] theorem kSet_1 : kSet i (some (.v d, τ)) = kNx (setSl i (.sh d) τ) := by show (setSl i (.sh d) τ).map _ = _; cases setSl i (.sh d) τ <;> rfl
@[simp] theorem kSet_2 : kSet i (some (.nw d, τ)) = kNx (setSl i (.ow false d) τ) := by show (setSl i (.ow false d) τ).map _ = _; cases setSl i (.ow false d) τ <;> rfl
@[simp] theorem kSet_3 : kSet i (some (.sl j, τ)) = kSet2 i (share (.sl j) τ) := by
  show (share (.sl j) τ).bind _ = _
  cases share (.sl j) τ with
  | none => rfl
  | some p => obtain ⟨d, τ1⟩ := p; show (setSl i (.sh d) τ1).map _ = kNx (setSl i (.sh d) τ1); cases setSl i (.sh d) τ1 <;> rfl
@[simp] theorem kSet2_s : kSet2 i (some (d, τ)) = kNx (setSl i (.sh d) τ) := (rfl)
abbrev OL := Option (List Dt × Tau)
def kSa1 (rs : List Rs) : OV → OL
  | some (d, τ) => (shareAll rs τ).map fun q => (d :: q.1, q.2)
  | none => none
def kSa2 (d : Dt) : OL → OL
  | some (ds, τ) => some (d :: ds, τ)
  | none => none
@[simp] theorem e_sa0 : shareAll [] τ = some ([], τ) := (rfl)
@[simp] theorem e_sa1 : shareAll (r :: rs) τ = kSa1 rs (share r τ) := by show (share r τ).bind _ = _; cases share r τ <;> rfl
@[simp] theorem kSa1_s : kSa1 rs (some (d, τ)) = kSa2 d (shareAll rs τ) := by show (shareAll rs τ).map _ = _; cases shareAll rs τ <;> rfl
@[simp] theorem kSa2_s (ds : List Dt) : kSa2 d (some (ds, τ)) = some (d :: ds, τ) := (rfl)
def kT0 : OA → OL
  | some (rs, τ) => shareAll rs τ
  | none => none
@[simp] theorem kT0_s : kT0 (some (rs, τ)) = shareAll rs τ := (rfl)
def kTup : OL → OR
  | some (ds, τ) => if ds.length ≤ sizeLine then some (.v (.tuple ds), τ) else none
  | none => none
def kLst : OL → OR
  | some (ds, τ) => if ds.length ≤ sizeLine then some (.nw (.list ds), τ) else none
  | none => none
@[simp] theorem e_tup : mTup es τ = kTup (kT0 (es τ)) := by
  unfold mTup
  cases es τ with
  | none => rfl
  | some p => obtain ⟨rs, τ⟩ := p; show (shareAll rs τ).bind _ = kTup (shareAll rs τ); cases shareAll rs τ <;> rfl
@[simp] theorem e_lst : mLst es τ = kLst (kT0 (es τ)) := by
  unfold mLst
  cases es τ with
  | none => rfl
  | some p => obtain ⟨rs, τ⟩ := p; show (shareAll rs τ).bind _ = kLst (shareAll rs τ); cases shareAll rs τ <;> rfl
theorem kTup_s (ds : List Dt) (h : ds.length ≤ sizeLine) : kTup (some (ds, τ)) = some (.v (.tuple ds), τ) := if_pos h
theorem kLst_s (ds : List Dt) (h : ds.length ≤ sizeLine) : kLst (some (ds, τ)) = some (.nw (.list ds), τ) := if_pos h
@[simp] theorem kLst_0 : kLst (some ([], τ)) = some (.nw (.list []), τ) := (rfl)
theorem sl_small {n : Nat} (h : n ≤ 1000) : n ≤ sizeLine := Nat.le_trans h (by decide)
@[simp] theorem kLst_k (ds : List Dt) (h : ds.length ≤ 1000) : kLst (some (ds, τ)) = some (.nw (.list ds), τ) := if_pos (sl_small h)
@[simp] theorem kTup_k (ds : List Dt) (h : ds.length ≤ 1000) : kTup (some (ds, τ)) = some (.v (.tuple ds), τ) := if_pos (sl_small h)
@[simp] theorem e_d0 : mD0 τ = some (.nw (.dict []), τ) := (rfl)
def kDct : OL → OR
  | some (ds, τ) => (dispL [] ds).map fun kvs => (.nw (.dict kvs), τ)
  | none => none
def kDct2 : Option (List (Dt × Dt)) → Tau → OR
  | some kvs, τ => some (.nw (.dict kvs), τ)
  | none, _ => none
@[simp] theorem e_dct : mDct es τ = kDct (kT0 (es τ)) := by
  unfold mDct
  cases es τ with
  | none => rfl
  | some p => obtain ⟨rs, τ⟩ := p; show (shareAll rs τ).bind _ = kDct (shareAll rs τ); cases shareAll rs τ <;> rfl
@[simp] theorem kDct_s (ds : List Dt) : kDct (some (ds, τ)) = kDct2 (dispL [] ds) τ := by show (dispL [] ds).map _ = _; cases dispL [] ds <;> rfl
@[simp] theorem kDct2_s (kvs : List (Dt × Dt)) : kDct2 (some kvs) τ = some (.nw (.dict kvs), τ) := (rfl)
def kAug1 (i : Nat) (f : Dt → Dt → Option Dt) (m : M Rs) (τ : Tau) : Option Sl → OS
  | some (.sh d0) => (m τ).bind fun p => (deref p.1 p.2).bind fun d => (f d0 d).bind fun z => (setSl i (.sh z) p.2).map fun τ' => (.nx, τ')
  | _ => none
def kAug2 (i : Nat) (f : Dt → Dt → Option Dt) (d0 : Dt) : OR → OS
  | some (r, τ) => (deref r τ).bind fun d => (f d0 d).bind fun z => (setSl i (.sh z) τ).map fun τ' => (.nx, τ')
  | none => none
def kAug3 (i : Nat) (f : Dt → Dt → Option Dt) (d0 : Dt) : Option Dt → Tau → OS
  | some d, τ => (f d0 d).bind fun z => (setSl i (.sh z) τ).map fun τ' => (.nx, τ')
  | none, _ => none
def kAug4 (i : Nat) : Option Dt → Tau → OS
  | some z, τ => kNx (setSl i (.sh z) τ)
  | none, _ => none
@[simp] theorem e_aug (f : Dt → Dt → Option Dt) : mAug i f m τ = kAug1 i f m τ τ[i]? := by
  unfold mAug
  cases h : τ[i]? with
  | none => rfl
  | some u => cases u <;> rfl
@[simp] theorem kAug1_s (f : Dt → Dt → Option Dt) : kAug1 i f m τ (some (.sh d)) = kAug2 i f d (m τ) := by show (m τ).bind _ = _; cases m τ <;> rfl
@[simp] theorem kAug2_s (f : Dt → Dt → Option Dt) : kAug2 i f d (some (r, τ)) = kAug3 i f d (deref r τ) τ := by show (deref r τ).bind _ = _; cases deref r τ <;> rfl
@[simp] theorem kAug3_s (f : Dt → Dt → Option Dt) : kAug3 i f d (some e) τ = kAug4 i (f d e) τ := by
  show (f d e).bind _ = _
  cases f d e with
  | none => rfl
  | some z => show (setSl i (.sh z) τ).map _ = kNx (setSl i (.sh z) τ); cases setSl i (.sh z) τ <;> rfl
@[simp] theorem kAug4_s : kAug4 i (some d) τ = kNx (setSl i (.sh d) τ) := (rfl)
def kIt1 (i : Nat) (mi : M Rs) : OR → OS
  | some (r, τ) => (share r τ).bind fun q => if isOw i q.2 then (mi q.2).bind fun r => (deref r.1 r.2).bind fun k => (putI i k q.1 r.2).map fun τ' => (.nx, τ') else none
  | none => none
def kIt2 (i : Nat) (mi : M Rs) : OV → OS
  | some (d, τ) => if isOw i τ then (mi τ).bind fun r => (deref r.1 r.2).bind fun k => (putI i k d r.2).map fun τ' => (.nx, τ') else none
  | none => none
def kIt3 (i : Nat) (mi : M Rs) (d : Dt) (τ : Tau) : Option Sl → OS
  | some (.ow _ _) => (mi τ).bind fun r => (deref r.1 r.2).bind fun k => (putI i k d r.2).map fun τ' => (.nx, τ')
  | _ => none
def kIt4 (i : Nat) (d : Dt) : OR → OS
  | some (r, τ) => (deref r τ).bind fun k => (putI i k d τ).map fun τ' => (.nx, τ')
  | none => none
def kIt5 (i : Nat) (d : Dt) : Option Dt → Tau → OS
  | some k, τ => (putI i k d τ).map fun τ' => (.nx, τ')
  | none, _ => none
def kIt6 (i : Nat) (k d : Dt) (τ : Tau) : Option Sl → OS
  | some (.ow io c) => (setD c k d).map fun c' => (.nx, τ.set i (.ow io c'))
  | _ => none
def kIt7 (i : Nat) (io : Bool) (τ : Tau) : Option Dt → OS
  | some c' => some (.nx, τ.set i (.ow io c'))
  | none => none
@[simp] theorem e_setIt : mSetIt i ma me τ = kIt1 i ma (me τ) := by unfold mSetIt; cases me τ <;> rfl
@[simp] theorem kIt1_s : kIt1 i m (some (r, τ)) = kIt2 i m (share r τ) := by show (share r τ).bind _ = _; cases share r τ <;> rfl
@[simp] theorem kIt2_s : kIt2 i m (some (d, τ)) = kIt3 i m d τ τ[i]? := by
  show (if isOw i τ then _ else none) = _
  unfold isOw
  cases h : τ[i]? with
  | none => rfl
  | some u => cases u <;> rfl
@[simp] theorem kIt3_s : kIt3 i m d τ (some (.ow c e)) = kIt4 i d (m τ) := by show (m τ).bind _ = _; cases m τ <;> rfl
@[simp] theorem kIt4_s : kIt4 i d (some (r, τ)) = kIt5 i d (deref r τ) τ := by show (deref r τ).bind _ = _; cases deref r τ <;> rfl
@[simp] theorem kIt5_s (k : Dt) : kIt5 i d (some k) τ = kIt6 i k d τ τ[i]? := by
  show (putI i k d τ).map _ = _
  unfold putI
  cases h : τ[i]? with
  | none => rfl
  | some u => cases u with
    | ow c e => show ((setD e k d).map _).map _ = (setD e k d).map _; cases setD e k d <;> rfl
    | _ => rfl
@[simp] theorem kIt6_s (k : Dt) : kIt6 i k d τ (some (.ow c e)) = kIt7 i c τ (setD e k d) := by show (setD e k d).map _ = _; cases setD e k d <;> rfl
@[simp] theorem kIt7_s : kIt7 i c τ (some d) = some (.nx, τ.set i (.ow c d)) := (rfl)
/-! methods -/
def kMe1 (T : String) (f : Dt → List Dt → Option Rs) (es : M (List Rs)) : OR → OR
  | some (r, τ) => (deref r τ).bind fun d0 => if tyN d0 = some T then (es τ).bind fun q => (deref r q.2).bind fun d => (derefs q.1 q.2).bind fun ds => (f d ds).map fun z => (z, q.2) else none
  | none => none
def kMe2 (T : String) (f : Dt → List Dt → Option Rs) (es : M (List Rs)) (r : Rs) (τ : Tau) : Option Dt → OR
  | some d0 => if tyN d0 = some T then (es τ).bind fun q => (deref r q.2).bind fun d => (derefs q.1 q.2).bind fun ds => (f d ds).map fun z => (z, q.2) else none
  | none => none
def kMe3 (f : Dt → List Dt → Option Rs) (r : Rs) : OA → OR
  | some (rs, τ) => (deref r τ).bind fun d => (derefs rs τ).bind fun ds => (f d ds).map fun z => (z, τ)
  | none => none
def kMe4 (f : Dt → List Dt → Option Rs) : Option Dt → OD → Tau → OR
  | some d, some ds, τ => kOut (f d ds) τ
  | _, _, _ => none
@[simp] theorem e_meth (T : String) (f : Dt → List Dt → Option Rs) : mMeth T f m es τ = kMe1 T f es (m τ) := by unfold mMeth; cases m τ <;> rfl
@[simp] theorem kMe1_s (T : String) (f : Dt → List Dt → Option Rs) : kMe1 T f es (some (r, τ)) = kMe2 T f es r τ (deref r τ) := by show (deref r τ).bind _ = _; cases deref r τ <;> rfl
theorem kMe2_s (T : String) (f : Dt → List Dt → Option Rs) (h : tyN d = some T) : kMe2 T f es r τ (some d) = kMe3 f r (es τ) := by
  show (if tyN d = some T then _ else none) = _
  rw [if_pos h]
  cases es τ <;> rfl
@[simp] theorem kMe2_l (f : Dt → List Dt → Option Rs) (ds : List Dt) : kMe2 "list" f es r τ (some (.list ds)) = kMe3 f r (es τ) := kMe2_s _ _ _ _ _ _ rfl
@[simp] theorem kMe2_d (f : Dt → List Dt → Option Rs) (ds : List (Dt × Dt)) : kMe2 "dict" f es r τ (some (.dict ds)) = kMe3 f r (es τ) := kMe2_s _ _ _ _ _ _ rfl
@[simp] theorem kMe2_t (f : Dt → List Dt → Option Rs) (x : Str) : kMe2 "str" f es r τ (some (.str x)) = kMe3 f r (es τ) := kMe2_s _ _ _ _ _ _ rfl
@[simp] theorem kMe3_s (f : Dt → List Dt → Option Rs) : kMe3 f r (some (rs, τ)) = kMe4 f (deref r τ) (derefs rs τ) τ := by
  show (deref r τ).bind _ = _
  cases deref r τ with
  | none => rfl
  | some d =>
    show (derefs rs τ).bind _ = _
    cases derefs rs τ with
    | none => rfl
    | some ds => show (f d ds).map _ = kOut (f d ds) τ; cases f d ds <;> rfl
@[simp] theorem kMe4_s (f : Dt → List Dt → Option Rs) (ds : List Dt) : kMe4 f (some d) (some ds) τ = kOut (f d ds) τ := (rfl)
def kMS1 (i : Nat) (T : String) (f : Dt → List Dt → Option (Dt × Dt)) (es : M (List Rs)) (τ : Tau) : Option Sl → OR
  | some (.ow _ c0) => if tyN c0 = some T then (es τ).bind fun p => (shareAll p.1 p.2).bind fun q => (match q.2[i]? with
    | some (.ow io c) => (f c q.1).map fun z => (.v z.2, q.2.set i (.ow io z.1))
    | _ => none) else none
  | _ => none
def kMS2 (i : Nat) (f : Dt → List Dt → Option (Dt × Dt)) : OL → OR
  | some (ds, τ) => (match τ[i]? with
    | some (.ow io c) => (f c ds).map fun z => (.v z.2, τ.set i (.ow io z.1))
    | _ => none)
  | none => none
def kMS3 (i : Nat) (f : Dt → List Dt → Option (Dt × Dt)) (ds : List Dt) (τ : Tau) : Option Sl → OR
  | some (.ow io c) => (f c ds).map fun z => (.v z.2, τ.set i (.ow io z.1))
  | _ => none
def kMS4 (i : Nat) (io : Bool) (τ : Tau) : Option (Dt × Dt) → OR
  | some (c', r) => some (.v r, τ.set i (.ow io c'))
  | none => none
@[simp] theorem e_methS (T : String) (f : Dt → List Dt → Option (Dt × Dt)) : mMethS i T f es τ = kMS1 i T f es τ τ[i]? := by
  unfold mMethS
  cases h : τ[i]? with
  | none => rfl
  | some u => cases u <;> rfl
theorem kMS1_s (T : String) (f : Dt → List Dt → Option (Dt × Dt)) (h : tyN d = some T) : kMS1 i T f es τ (some (.ow c d)) = kMS2 i f (kT0 (es τ)) := by
  show (if tyN d = some T then _ else none) = _
  rw [if_pos h]
  cases es τ with
  | none => rfl
  | some p => obtain ⟨rs, τ1⟩ := p; show (shareAll rs τ1).bind _ = kMS2 i f (shareAll rs τ1); cases shareAll rs τ1 <;> rfl
@[simp] theorem kMS1_l (f : Dt → List Dt → Option (Dt × Dt)) (ds : List Dt) : kMS1 i "list" f es τ (some (.ow c (.list ds))) = kMS2 i f (kT0 (es τ)) := kMS1_s _ _ _ _ _ _ _ rfl
@[simp] theorem kMS2_s (f : Dt → List Dt → Option (Dt × Dt)) (ds : List Dt) : kMS2 i f (some (ds, τ)) = kMS3 i f ds τ τ[i]? := by
  show (match τ[i]? with | some (.ow io c) => _ | _ => none) = _
  cases h : τ[i]? with
  | none => rfl
  | some u => cases u <;> rfl
@[simp] theorem kMS3_s (f : Dt → List Dt → Option (Dt × Dt)) (ds : List Dt) : kMS3 i f ds τ (some (.ow c d)) = kMS4 i c τ (f d ds) := by
  show (f d ds).map _ = _
  cases f d ds <;> rfl
@[simp] theorem kMS4_s : kMS4 i c τ (some (d, e)) = some (.v e, τ.set i (.ow c d)) := (rfl)
@[simp] theorem e_tyN1 (x : Int) : tyN (.int x) = some "int" := (rfl)
@[simp] theorem e_tyN2 (x : Str) : tyN (.str x) = some "str" := (rfl)
@[simp] theorem e_tyN3 (x : List Dt) : tyN (.list x) = some "list" := (rfl)
@[simp] theorem e_tyN4 (x : List (Dt × Dt)) : tyN (.dict x) = some "dict" := (rfl)
/-! slices -/
def kO : OR → Option (Option Rs × Tau)
  | some (r, τ) => some (some r, τ)
  | none => none
@[simp] theorem e_O0 : mO0 τ = some (none, τ) := (rfl)
@[simp] theorem e_O : mO m τ = kO (m τ) := by unfold mO; cases m τ <;> rfl
@[simp] theorem kO_s : kO (some (r, τ)) = some (some r, τ) := (rfl)
def kInt : Option Dt → Option (Option Int)
  | some (.int i) => some (some i)
  | _ => none
@[simp] theorem e_pD0 : partD none τ = some none := (rfl)
@[simp] theorem e_pD1 : partD (some r) τ = kInt (deref r τ) := by
  show (deref r τ).bind _ = _
  cases deref r τ with
  | none => rfl
  | some d => cases d <;> rfl
@[simp] theorem kInt_s (x : Int) : kInt (some (.int x)) = some (some x) := (rfl)
def kCu1 (ml mh : MO) : OR → OR
  | some (r, τ) => (ml τ).bind fun q => (partD q.1 q.2).bind fun lo => (mh q.2).bind fun s => (partD s.1 s.2).bind fun hi => (deref r s.2).bind fun d => (dCut d lo hi).map fun z => (z, s.2)
  | none => none
def kCu2 (r : Rs) (mh : MO) : Option (Option Rs × Tau) → OR
  | some (o, τ) => (partD o τ).bind fun lo => (mh τ).bind fun s => (partD s.1 s.2).bind fun hi => (deref r s.2).bind fun d => (dCut d lo hi).map fun z => (z, s.2)
  | none => none
def kCu3 (r : Rs) (mh : MO) (τ : Tau) : Option (Option Int) → OR
  | some lo => (mh τ).bind fun s => (partD s.1 s.2).bind fun hi => (deref r s.2).bind fun d => (dCut d lo hi).map fun z => (z, s.2)
  | none => none
def kCu4 (r : Rs) (lo : Option Int) : Option (Option Rs × Tau) → OR
  | some (o, τ) => (partD o τ).bind fun hi => (deref r τ).bind fun d => (dCut d lo hi).map fun z => (z, τ)
  | none => none
def kCu5 (lo : Option Int) : Option (Option Int) → Option Dt → Tau → OR
  | some hi, some d, τ => kOut (dCut d lo hi) τ
  | _, _, _ => none
@[simp] theorem e_cut (ml mh : MO) : mCut m ml mh τ = kCu1 ml mh (m τ) := by unfold mCut; cases m τ <;> rfl
@[simp] theorem kCu1_s (ml mh : MO) : kCu1 ml mh (some (r, τ)) = kCu2 r mh (ml τ) := by show (ml τ).bind _ = _; cases ml τ <;> rfl
@[simp] theorem kCu2_s (mh : MO) (o : Option Rs) : kCu2 r mh (some (o, τ)) = kCu3 r mh τ (partD o τ) := by show (partD o τ).bind _ = _; cases partD o τ <;> rfl
@[simp] theorem kCu3_s (mh : MO) (lo : Option Int) : kCu3 r mh τ (some lo) = kCu4 r lo (mh τ) := by show (mh τ).bind _ = _; cases mh τ <;> rfl
@[simp] theorem kCu4_s (lo : Option Int) (o : Option Rs) : kCu4 r lo (some (o, τ)) = kCu5 lo (partD o τ) (deref r τ) τ := by
  show (partD o τ).bind _ = _
  cases partD o τ with
  | none => rfl
  | some hi =>
    show (deref r τ).bind _ = _
    cases deref r τ with
    | none => rfl
    | some d => show (dCut d lo hi).map _ = kOut (dCut d lo hi) τ; cases dCut d lo hi <;> rfl
@[simp] theorem kCu5_s (lo hi : Option Int) : kCu5 lo (some hi) (some d) τ = kOut (dCut d lo hi) τ := (rfl)
/-! what is walked -/
abbrev OI := Option ((List Dt × Option Nat) × Tau)
def kHo : OR → OI
  | some (r, τ) => hold r τ
  | none => none
def kHo2 : Option Sl → Nat → Tau → OI
  | some (.ow io (.list ds)), i, τ => some ((ds, some i), τ.set i (.lo io (.list ds)))
  | some (.lo _ (.list ds)), _, τ => some ((ds, none), τ)
  | some (.sh (.list ds)), _, τ => some ((ds, none), τ)
  | some (.sh (.tuple ds)), _, τ => some ((ds, none), τ)
  | _, _, _ => none
@[simp] theorem e_hold : mHold m τ = kHo (m τ) := by unfold mHold; cases m τ <;> rfl
@[simp] theorem kHo_1 (ds : List Dt) : kHo (some (.v (.list ds), τ)) = some ((ds, none), τ) := (rfl)
@[simp] theorem kHo_2 (ds : List Dt) : kHo (some (.v (.tuple ds), τ)) = some ((ds, none), τ) := (rfl)
@[simp] theorem kHo_3 (ds : List Dt) : kHo (some (.nw (.list ds), τ)) = some ((ds, none), τ) := (rfl)
@[simp] theorem kHo_4 : kHo (some (.sl i, τ)) = kHo2 τ[i]? i τ := by
  show hold (.sl i) τ = _
  unfold hold lockI
  cases h : τ[i]? with
  | none => simp [kHo2, h]
  | some u => cases u with
    | un => simp [kHo2, h]
    | sh d => cases d <;> simp [kHo2, h]
    | ow c d => cases d <;> simp [kHo2, h]
    | lo c d => cases d <;> simp [kHo2, h]
    | ad a => simp [kHo2, h]
@[simp] theorem kHo2_1 (ds : List Dt) : kHo2 (some (.ow c (.list ds))) i τ = some ((ds, some i), τ.set i (.lo c (.list ds))) := (rfl)
@[simp] theorem kHo2_2 (ds : List Dt) : kHo2 (some (.lo c (.list ds))) i τ = some ((ds, none), τ) := (rfl)
@[simp] theorem kHo2_3 (ds : List Dt) : kHo2 (some (.sh (.list ds))) i τ = some ((ds, none), τ) := (rfl)
@[simp] theorem kHo2_4 (ds : List Dt) : kHo2 (some (.sh (.tuple ds))) i τ = some ((ds, none), τ) := (rfl)
def kUl : Option Sl → Nat → Tau → Option Tau
  | some (.lo io d), i, τ => some (τ.set i (.ow io d))
  | _, _, _ => none
@[simp] theorem e_unlock : unlockI i τ = kUl τ[i]? i τ := by
  unfold unlockI
  cases h : τ[i]? with
  | none => rfl
  | some u => cases u <;> rfl
@[simp] theorem kUl_s : kUl (some (.lo c d)) i τ = some (τ.set i (.ow c d)) := (rfl)
@[simp] theorem e_uh0 : unhold none τ = some τ := (rfl)
@[simp] theorem e_uh1 : unhold (some i) τ = unlockI i τ := (rfl)
def kIm1 (f : List Dt → Option (List Dt)) : OL → OI
  | some (ds, τ) => (f ds).map fun its => ((its, none), τ)
  | none => none
def kIm2 : Option (List Dt) → Tau → OI
  | some its, τ => some ((its, none), τ)
  | none, _ => none
@[simp] theorem e_items (f : List Dt → Option (List Dt)) : mItems f es τ = kIm1 f (kT0 (es τ)) := by
  unfold mItems
  cases es τ with
  | none => rfl
  | some p => obtain ⟨rs, τ⟩ := p; show (shareAll rs τ).bind _ = kIm1 f (shareAll rs τ); cases shareAll rs τ <;> rfl
@[simp] theorem kIm1_s (f : List Dt → Option (List Dt)) (ds : List Dt) : kIm1 f (some (ds, τ)) = kIm2 (f ds) τ := by show (f ds).map _ = _; cases f ds <;> rfl
@[simp] theorem kIm2_s (ds : List Dt) : kIm2 (some ds) τ = some ((ds, none), τ) := (rfl)
def kBt (bs : List Dt → Tau → Option Tau) (ds : List Dt) : Option Tau → Option Tau
  | some τ => bs ds τ
  | none => none
@[simp] theorem e_bn : bName i d τ = setSl i (.sh d) τ := (rfl)
@[simp] theorem e_bnil : bNil [] τ = some τ := (rfl)
@[simp] theorem e_bcons (b : MB) (bs : List Dt → Tau → Option Tau) (ds : List Dt) : bCons b bs (d :: ds) τ = kBt bs ds (b d τ) := by show (b d τ).bind _ = _; cases b d τ <;> rfl
@[simp] theorem kBt_s (bs : List Dt → Tau → Option Tau) (ds : List Dt) : kBt bs ds (some τ) = bs ds τ := (rfl)
@[simp] theorem e_btup (bs : List Dt → Tau → Option Tau) (ds : List Dt) (h : ds.length = n) : bTup n bs (.tuple ds) τ = bs ds τ := if_pos h
def kF1 (b : MB) (body : MS) : OI → OS
  | some ((its, lk), τ) => (forL b body its τ).bind fun q => (unhold lk q.2).map fun τ' => (q.1, τ')
  | none => none
def kF2 (lk : Option Nat) : OS → OS
  | some (o, τ) => (unhold lk τ).map fun τ' => (o, τ')
  | none => none
def kF3 (o : Out) : Option Tau → OS
  | some τ => some (o, τ)
  | none => none
@[simp] theorem e_for (ms : M (List Dt × Option Nat)) (b : MB) (body : MS) : mFor ms b body τ = kF1 b body (ms τ) := by unfold mFor; cases ms τ <;> rfl
@[simp] theorem kF1_s (b : MB) (body : MS) (ds : List Dt) (lk : Option Nat) : kF1 b body (some ((ds, lk), τ)) = kF2 lk (forL b body ds τ) := by show (forL b body ds τ).bind _ = _; cases forL b body ds τ <;> rfl
@[simp] theorem kF2_s (lk : Option Nat) (o : Out) : kF2 lk (some (o, τ)) = kF3 o (unhold lk τ) := by show (unhold lk τ).map _ = _; cases unhold lk τ <;> rfl
@[simp] theorem kF3_s (o : Out) : kF3 o (some τ) = some (o, τ) := (rfl)
@[simp] theorem e_forL0 (b : MB) (body : MS) : forL b body [] τ = some (.nx, τ) := (rfl)
def kL1 (body : MS) : Option Tau → OS
  | some τ => body τ
  | none => none
def kL2 (b : MB) (body : MS) (ds : List Dt) : OS → OS
  | some (.nx, τ) => forL b body ds τ
  | some (.ct, τ) => forL b body ds τ
  | some (.bk, τ) => some (.nx, τ)
  | some (.rt d f, τ) => some (.rt d f, τ)
  | none => none
theorem e_forL1 (b : MB) (body : MS) (ds : List Dt) : forL b body (d :: ds) τ = kL2 b body ds (kL1 body (b d τ)) := by
  show (b d τ).bind _ = _
  cases b d τ with
  | none => rfl
  | some τ1 =>
    show (body τ1).bind _ = kL2 b body ds (body τ1)
    cases body τ1 with
    | none => rfl
    | some q => obtain ⟨o, τ2⟩ := q; cases o <;> rfl
@[simp] theorem kL1_s (body : MS) : kL1 body (some τ) = body τ := (rfl)
@[simp] theorem kL2_1 (b : MB) (body : MS) (ds : List Dt) : kL2 b body ds (some (.nx, τ)) = forL b body ds τ := (rfl)
@[simp] theorem kL2_2 (b : MB) (body : MS) (ds : List Dt) : kL2 b body ds (some (.ct, τ)) = forL b body ds τ := (rfl)
@[simp] theorem kL2_3 (b : MB) (body : MS) (ds : List Dt) : kL2 b body ds (some (.bk, τ)) = some (.nx, τ) := (rfl)
@[simp] theorem kL2_4 (b : MB) (body : MS) (ds : List Dt) : kL2 b body ds (some (.rt d c, τ)) = some (.rt d c, τ) := (rfl)
def kFD (i : Nat) (f : List (Dt × Dt) → List Dt) (b : MB) (body : MS) (τ : Tau) : Option Sl → OS
  | some (.ow io (.dict kvs)) => kF2 (some i) (forL b body (f kvs) (τ.set i (.lo io (.dict kvs))))
  | some (.lo _ (.dict kvs)) => forL b body (f kvs) τ
  | some (.sh (.dict kvs)) => forL b body (f kvs) τ
  | _ => none
@[simp] theorem e_forD (f : List (Dt × Dt) → List Dt) (b : MB) (body : MS) : mForD i f b body τ = kFD i f b body τ τ[i]? := by
  unfold mForD
  cases h : τ[i]? with
  | none => rfl
  | some u => cases u with
    | un => rfl
    | sh d => cases d <;> rfl
    | ow c d => cases d with
      | dict kvs => show (forL b body (f kvs) (τ.set i (.lo c (.dict kvs)))).bind _ = kF2 (some i) (forL b body (f kvs) (τ.set i (.lo c (.dict kvs)))); cases forL b body (f kvs) (τ.set i (.lo c (.dict kvs))) <;> rfl
      | _ => rfl
    | lo c d => cases d <;> rfl
    | ad a => rfl
@[simp] theorem kFD_1 (f : List (Dt × Dt) → List Dt) (b : MB) (body : MS) (kvs : List (Dt × Dt)) : kFD i f b body τ (some (.ow c (.dict kvs))) = kF2 (some i) (forL b body (f kvs) (τ.set i (.lo c (.dict kvs)))) := (rfl)
@[simp] theorem kFD_2 (f : List (Dt × Dt) → List Dt) (b : MB) (body : MS) (kvs : List (Dt × Dt)) : kFD i f b body τ (some (.lo c (.dict kvs))) = forL b body (f kvs) τ := (rfl)
@[simp] theorem kFD_3 (f : List (Dt × Dt) → List Dt) (b : MB) (body : MS) (kvs : List (Dt × Dt)) : kFD i f b body τ (some (.sh (.dict kvs))) = forL b body (f kvs) τ := (rfl)
/-! comprehensions -/
def kW1 (v : Nat) : Option Tau → Option Tau
  | some τ => (match τ[v]? with
    | some .un => some τ
    | some (.sh _) => some (τ.set v .un)
    | _ => none)
  | none => none
def kW2 (v : Nat) (τ : Tau) : Option Sl → Option Tau
  | some .un => some τ
  | some (.sh _) => some (τ.set v .un)
  | _ => none
@[simp] theorem e_w0 : wipeT [] τ = some τ := (rfl)
@[simp] theorem e_w1 (v : Nat) (vs : List Nat) : wipeT (v :: vs) τ = kW1 v (wipeT vs τ) := by show (wipeT vs τ).bind _ = _; cases wipeT vs τ <;> rfl
@[simp] theorem kW1_s (v : Nat) : kW1 v (some τ) = kW2 v τ τ[v]? := by
  show (match τ[v]? with | some .un => _ | some (.sh _) => _ | _ => none) = _
  cases h : τ[v]? with
  | none => rfl
  | some u => cases u <;> rfl
@[simp] theorem kW2_1 (v : Nat) : kW2 v τ (some .un) = some τ := (rfl)
@[simp] theorem kW2_2 (v : Nat) : kW2 v τ (some (.sh d)) = some (τ.set v .un) := (rfl)
@[simp] theorem e_r0 (τ0 : Tau) : restT [] τ0 τ = τ := (rfl)
@[simp] theorem e_r1 (v : Nat) (vs : List Nat) (τ0 : Tau) : restT (v :: vs) τ0 τ = (restT vs τ0 τ).set v (τ0.getD v .un) := (rfl)
@[simp] theorem e_tAll : tAll τ = some (true, τ) := (rfl)
def kM1 (vs : List Nat) (b : MB) (t : M Bool) (me : M Rs) : OI → OR
  | some ((its, lk), τ) => (wipeT vs τ).bind fun τ0 => (compL vs b t me its [] τ0).bind fun q => (unhold lk (restT vs τ q.2)).map fun τ' => (.nw (.list q.1), τ')
  | none => none
def kM2 (vs : List Nat) (b : MB) (t : M Bool) (me : M Rs) (its : List Dt) (lk : Option Nat) (τ : Tau) : Option Tau → OR
  | some τ0 => (compL vs b t me its [] τ0).bind fun q => (unhold lk (restT vs τ q.2)).map fun τ' => (.nw (.list q.1), τ')
  | none => none
def kM3 (vs : List Nat) (lk : Option Nat) (τ : Tau) : OL → OR
  | some (ds, τ2) => (unhold lk (restT vs τ τ2)).map fun τ' => (.nw (.list ds), τ')
  | none => none
def kM4 (ds : List Dt) : Option Tau → OR
  | some τ => some (.nw (.list ds), τ)
  | none => none
@[simp] theorem e_comp (ms : M (List Dt × Option Nat)) (vs : List Nat) (b : MB) : mComp ms vs b t me τ = kM1 vs b t me (ms τ) := by unfold mComp; cases ms τ <;> rfl
@[simp] theorem kM1_s (vs : List Nat) (b : MB) (its : List Dt) (lk : Option Nat) : kM1 vs b t me (some ((its, lk), τ)) = kM2 vs b t me its lk τ (wipeT vs τ) := by show (wipeT vs τ).bind _ = _; cases wipeT vs τ <;> rfl
@[simp] theorem kM2_s (vs : List Nat) (b : MB) (its : List Dt) (lk : Option Nat) : kM2 vs b t me its lk τ (some τ1) = kM3 vs lk τ (compL vs b t me its [] τ1) := by show (compL vs b t me its [] τ1).bind _ = _; cases compL vs b t me its [] τ1 <;> rfl
@[simp] theorem kM3_s (vs : List Nat) (lk : Option Nat) (ds : List Dt) : kM3 vs lk τ (some (ds, τ1)) = kM4 ds (unhold lk (restT vs τ τ1)) := by show (unhold lk (restT vs τ τ1)).map _ = _; cases unhold lk (restT vs τ τ1) <;> rfl
@[simp] theorem kM4_s (ds : List Dt) : kM4 ds (some τ) = some (.nw (.list ds), τ) := (rfl)
/-! calls of defs -/
def kG1 (np : Nat) (g : M (Dt × Bool)) (io : Option Nat) : OA → OR
  | some (rs, τ) => if rs.length = np ∧ (∀ i, ioSl io rs = some i → rs.countP (isSl i) = 1) then (argsT io rs τ).bind fun τ0 => (g τ0).bind fun q =>
    if rs.any (lent (ioSl io rs) τ) = false ∨ ((if q.1.2 then pureI q.1.1 else pureD q.1.1) = true ∧ q.2.all pureSl = true) then
      (backT (ioSl io rs) io q.2 τ).map fun τ' => ((if q.1.2 then .nw q.1.1 else .v q.1.1), τ')
    else none
  else none
  | none => none
def kG2 (g : M (Dt × Bool)) (io : Option Nat) (rs : List Rs) (τ : Tau) : Option Tau → OR
  | some τ0 => (g τ0).bind fun q =>
    if rs.any (lent (ioSl io rs) τ) = false ∨ ((if q.1.2 then pureI q.1.1 else pureD q.1.1) = true ∧ q.2.all pureSl = true) then
      (backT (ioSl io rs) io q.2 τ).map fun τ' => ((if q.1.2 then .nw q.1.1 else .v q.1.1), τ')
    else none
  | none => none
def kG3 (io : Option Nat) (rs : List Rs) (τ : Tau) : Option ((Dt × Bool) × Tau) → OR
  | some ((d, c), τ2) => if rs.any (lent (ioSl io rs) τ) = false ∨ ((if c then pureI d else pureD d) = true ∧ τ2.all pureSl = true) then
      (backT (ioSl io rs) io τ2 τ).map fun τ' => ((if c then .nw d else .v d), τ')
    else none
  | none => none
def kG4 (d : Dt) (c : Bool) : Option Tau → OR
  | some τ => some ((if c then .nw d else .v d), τ)
  | none => none
@[simp] theorem e_callF (np : Nat) (g : M (Dt × Bool)) (io : Option Nat) : mCallF np g io es τ = kG1 np g io (es τ) := by unfold mCallF; cases es τ <;> rfl
theorem kG1_s (np : Nat) (g : M (Dt × Bool)) (io : Option Nat) (h : rs.length = np) (h2 : ∀ i, ioSl io rs = some i → rs.countP (isSl i) = 1) : kG1 np g io (some (rs, τ)) = kG2 g io rs τ (argsT io rs τ) := by
  show (if _ then _ else none) = _
  rw [if_pos ⟨h, h2⟩]
  cases argsT io rs τ <;> rfl
@[simp] theorem kG1_0 (np : Nat) (g : M (Dt × Bool)) (h : rs.length = np) : kG1 np g none (some (rs, τ)) = kG2 g none rs τ (argsT none rs τ) := kG1_s _ _ _ _ _ h fun i z => nomatch z
theorem kG1_1 (np k : Nat) (g : M (Dt × Bool)) (h : rs.length = np) (h2 : rs[k]? = some (.sl i)) (h3 : rs.countP (isSl i) = 1) : kG1 np g (some k) (some (rs, τ)) = kG2 g (some k) rs τ (argsT (some k) rs τ) := kG1_s _ _ _ _ _ h fun j z => by
  have e : ioSl (some k) rs = some i := by
    show (match rs[k]? with | some (.sl i) => some i | _ => none) = _
    rw [h2]
  rw [e] at z
  cases z
  exact h3
theorem isSl_same : isSl i (.sl i) = true := by simp [isSl]
@[simp] theorem kG1_a (np : Nat) (g : M (Dt × Bool)) (h : rs.length + 1 = np) (h3 : rs.countP (isSl i) = 0) : kG1 np g (some 0) (some (.sl i :: rs, τ)) = kG2 g (some 0) (.sl i :: rs) τ (argsT (some 0) (.sl i :: rs) τ) :=
  kG1_1 _ i _ _ _ _ h rfl (by rw [List.countP_cons, h3, isSl_same]; rfl)
@[simp] theorem kG1_b (np : Nat) (g : M (Dt × Bool)) (h : rs.length + 2 = np) (h2 : isSl i r = false) (h3 : rs.countP (isSl i) = 0) : kG1 np g (some 1) (some (r :: .sl i :: rs, τ)) = kG2 g (some 1) (r :: .sl i :: rs) τ (argsT (some 1) (r :: .sl i :: rs) τ) :=
  kG1_1 _ i _ _ _ _ h rfl (by rw [List.countP_cons, List.countP_cons, h3, isSl_same, h2]; rfl)
@[simp] theorem kG2_s (g : M (Dt × Bool)) (io : Option Nat) : kG2 g io rs τ (some τ1) = kG3 io rs τ (g τ1) := by show (g τ1).bind _ = _; cases g τ1 <;> rfl
@[simp] theorem kG3_s (io : Option Nat) (h : rs.any (lent (ioSl io rs) τ) = false ∨ ((if c then pureI d else pureD d) = true ∧ τ1.all pureSl = true)) : kG3 io rs τ (some ((d, c), τ1)) = kG4 d c (backT (ioSl io rs) io τ1 τ) := by
  show (if _ then _ else none) = _
  rw [if_pos h]
  cases backT (ioSl io rs) io τ1 τ <;> rfl
@[simp] theorem kG4_t : kG4 d true (some τ) = some (.nw d, τ) := (rfl)
@[simp] theorem kG4_f : kG4 d false (some τ) = some (.v d, τ) := (rfl)
@[simp] theorem e_io0 : ioSl none rs = none := (rfl)
def kIo : Option Rs → Option Nat
  | some (.sl i) => some i
  | _ => none
@[simp] theorem e_io1 (k : Nat) : ioSl (some k) rs = kIo rs[k]? := by
  show (match rs[k]? with | some (.sl i) => some i | _ => none) = _
  cases rs[k]? with
  | none => rfl
  | some u => cases u <;> rfl
@[simp] theorem kIo_1 : kIo (some (.sl i)) = some i := (rfl)
@[simp] theorem kIo_2 : kIo (some (.v d)) = none := (rfl)
@[simp] theorem kIo_3 : kIo (some (.nw d)) = none := (rfl)
def kAr1 : Option Dt → Option Tau → Option Tau
  | some d, some t => some (.sh d :: t)
  | _, _ => none
def kAr2 : Option Sl → Option Tau → Option Tau
  | some (.ow _ d), some t => some (.ow true d :: t)
  | _, _ => none
@[simp] theorem e_ar0 (io : Option Nat) : argsT io [] τ = some [] := by cases io with | none => rfl | some k => cases k <;> rfl
@[simp] theorem e_ar1 : argsT none (r :: rs) τ = kAr1 (deref r τ) (argsT none rs τ) := by
  show (deref r τ).bind _ = _
  cases deref r τ with
  | none => rfl
  | some d => cases argsT none rs τ <;> rfl
@[simp] theorem kAr1_s : kAr1 (some d) (some τ) = some (.sh d :: τ) := (rfl)
@[simp] theorem e_ar2 : argsT (some 0) (.sl i :: rs) τ = kAr2 τ[i]? (argsT none rs τ) := by
  show (match τ[i]? with | some (.ow _ d) => _ | _ => none) = _
  cases h : τ[i]? with
  | none => rfl
  | some u => cases u with
    | ow c d => show (argsT none rs τ).map _ = _; cases argsT none rs τ <;> rfl
    | _ => rfl
@[simp] theorem kAr2_s : kAr2 (some (.ow c d)) (some τ) = some (.ow true d :: τ) := (rfl)
@[simp] theorem e_ar3 (k : Nat) : argsT (some (k + 1)) (r :: rs) τ = kAr1 (deref r τ) (argsT (some k) rs τ) := by
  show (deref r τ).bind _ = _
  cases deref r τ with
  | none => rfl
  | some d => cases argsT (some k) rs τ <;> rfl
@[simp] theorem e_lt1 (io : Option Nat) : lent io τ (.v d) = false := (rfl)
@[simp] theorem e_lt2 (io : Option Nat) : lent io τ (.nw d) = false := (rfl)
@[simp] theorem e_lt3 (io : Option Nat) : lent io τ (.sl i) = (!(io == some i) && ((τ[i]?).map Sl.isO == some true)) := (rfl)
def kBk (i : Nat) (τ : Tau) : Option Sl → Option Sl → Option Tau
  | some (.ow b _), some (.ow true d) => some (τ.set i (.ow b d))
  | _, _ => none
@[simp] theorem e_bk1 (pos : Option Nat) : backT none pos τ1 τ = some τ := (rfl)
@[simp] theorem e_bk2 (k : Nat) : backT (some i) (some k) τ1 τ = kBk i τ τ[i]? τ1[k]? := by
  show (match τ[i]?, τ1[k]? with | some (.ow b _), some (.ow true d) => some (τ.set i (.ow b d)) | _, _ => none) = _
  generalize τ[i]? = u
  generalize τ1[k]? = w
  rcases u with _ | u
  · rfl
  cases u with
  | ow b d => 
    rcases w with _ | w
    · rfl
    cases w with
    | ow c e => cases c <;> rfl
    | _ => rfl
  | _ => rfl
@[simp] theorem kBk_s : kBk i τ (some (.ow c d)) (some (.ow true e)) = some (τ.set i (.ow c e)) := (rfl)
@[simp] theorem e_is1 : isSl i (.v d) = false := (rfl)
@[simp] theorem e_is2 : isSl i (.nw d) = false := (rfl)
@[simp] theorem e_is3 : isSl i (.sl j) = (i == j) := (rfl)
@[simp] theorem e_iO1 : Sl.isO .un = false := (rfl)
@[simp] theorem e_iO2 : Sl.isO (.sh d) = false := (rfl)
@[simp] theorem e_iO3 : Sl.isO (.ow c d) = true := (rfl)
@[simp] theorem e_iO4 : Sl.isO (.lo c d) = true := (rfl)
@[simp] theorem e_ps1 : pureSl .un = true := (rfl)
@[simp] theorem e_ps2 : pureSl (.sh d) = true := (rfl)
@[simp] theorem e_ps3 : pureSl (.ow c d) = pureI d := (rfl)
@[simp] theorem e_pd1 : pureD .none = true := by simp only [pureD]
@[simp] theorem e_pd2 (x : Bool) : pureD (.bool x) = true := by simp only [pureD]
@[simp] theorem e_pd3 (x : Int) : pureD (.int x) = true := by simp only [pureD]
@[simp] theorem e_pd4 (x : Str) : pureD (.str x) = true := by simp only [pureD]
@[simp] theorem e_pd5 (x : List Dt) : pureD (.tuple x) = pureL x := by simp only [pureD]
@[simp] theorem e_pl0 : pureL [] = true := by simp only [pureL]
@[simp] theorem e_pl1 (ds : List Dt) : pureL (d :: ds) = (pureD d && pureL ds) := by simp only [pureL]
def kFn (τ0 : Tau) : OS → Option ((Dt × Bool) × Tau)
  | some (.nx, τ) => some ((.none, false), keepT τ0 τ)
  | some (.rt d c, τ) => some ((d, c), keepT τ0 τ)
  | _ => none
def pad : Nat → Tau
  | 0 => []
  | n + 1 => .un :: pad n
theorem pad_eq : ∀ n, List.replicate n Sl.un = pad n
  | 0 => rfl
  | n + 1 => by rw [List.replicate_succ, pad_eq n]; rfl
theorem e_gFn (np nN : Nat) (mb : MS) (h : τ.length = np) (h2 : np ≤ nN) (h3 : τ.all okPar = true) : gFn np nN mb τ = kFn τ (mb (τ ++ pad (nN - np))) := by
  unfold gFn
  rw [if_pos ⟨h, h2, h3⟩, pad_eq]
  cases mb (τ ++ pad (nN - np)) with
  | none => rfl
  | some p => obtain ⟨o, τ1⟩ := p; cases o <;> rfl
@[simp] theorem kFn_1 : kFn τ (some (.nx, τ1)) = some ((.none, false), keepT τ τ1) := (rfl)
@[simp] theorem kFn_2 : kFn τ (some (.rt d c, τ1)) = some ((d, c), keepT τ τ1) := (rfl)
@[simp] theorem e_ok1 : okPar (.sh d) = true := (rfl)
@[simp] theorem e_ok2 : okPar (.ow true d) = true := (rfl)
@[simp] theorem e_ki1 (s : Sl) : keepIo .un s = .un := (rfl)
@[simp] theorem e_ki2 (s : Sl) : keepIo (.sh d) s = .un := (rfl)
@[simp] theorem e_ki3 : keepIo (.ow true d) (.ow true e) = .ow true e := (rfl)
@[simp] theorem e_kT0 (τ' : Tau) : keepT [] τ' = [] := (rfl)
@[simp] theorem e_kT1 (s s' : Sl) (τ' : Tau) : keepT (s :: τ) (s' :: τ') = keepIo s s' :: keepT τ τ' := by
  unfold keepT
  rw [List.mapIdx_cons]
  simp
end
/-! ### values -/
section
variable (i j : Int) (d e : Dt) (ds es : List Dt)
@[simp] theorem v_add : dAdd (.int i) (.int j) = some (.v (.int (i + j))) := (rfl)
@[simp] theorem v_sub : dSub (.int i) (.int j) = some (.v (.int (i - j))) := (rfl)
@[simp] theorem v_mul : dMul (.int i) (.int j) = if okMul i j = true then some (.v (.int (i * j))) else none := (rfl)
@[simp] theorem v_mod : dMod (.int i) (.int j) = if 0 < j then some (.v (.int (i % j))) else none := (rfl)
@[simp] theorem v_div : dDiv (.int i) (.int j) = if okDiv j = true then some (.v (.int (i / j))) else none := (rfl)
@[simp] theorem v_neg : dNeg (.int i) = some (.v (.int (-i))) := (rfl)
@[simp] theorem v_lt : dLt (.int i) (.int j) = some (.v (.bool (decide (i < j)))) := (rfl)
@[simp] theorem v_le : dLe (.int i) (.int j) = some (.v (.bool (decide (i ≤ j)))) := (rfl)
@[simp] theorem v_gt : dGt (.int i) (.int j) = some (.v (.bool (decide (j < i)))) := (rfl)
@[simp] theorem v_ge : dGe (.int i) (.int j) = some (.v (.bool (decide (j ≤ i)))) := (rfl)
theorem shaped_int : SeqAt.shaped (.int i) = true := by simp [SeqAt.shaped, PyData.canLay0, PyData.depth]
@[simp] theorem v_eq : dEq (.int i) (.int j) = some (.v (.bool (decide (i = j)))) := by
  simp only [dEq]
  rw [if_pos ⟨shaped_int i, shaped_int j⟩]
  simp [PyData.eqv]
  rw [Bool.beq_eq_decide_eq]
@[simp] theorem v_eqs (x y : Str) : dEq (.str x) (.str y) = some (.v (.bool (decide (x = y)))) := (rfl)
@[simp] theorem v_nes (x y : Str) : dNe (.str x) (.str y) = some (.v (.bool (!decide (x = y)))) := (rfl)
@[simp] theorem v_ne : dNe (.int i) (.int j) = some (.v (.bool (decide (i ≠ j)))) := by
  simp only [dNe]
  rw [if_pos ⟨shaped_int i, shaped_int j⟩]
  simp [PyData.eqv]
  rw [Bool.beq_eq_decide_eq]
@[simp] theorem v_ixl : dIxA (.list ds) (.int i) = (atI ds i).map .v := (rfl)
@[simp] theorem v_ixt : dIxA (.tuple ds) (.int i) = (atI ds i).map .v := (rfl)
@[simp] theorem v_aadd : aAdd (.int i) (.int j) = some (.int (i + j)) := (rfl)
@[simp] theorem v_asub : aSub (.int i) (.int j) = some (.int (i - j)) := (rfl)
@[simp] theorem v_len1 : fLen [.list ds] = some (.v (.int ds.length)) := (rfl)
@[simp] theorem v_len2 : fLen [.tuple ds] = some (.v (.int ds.length)) := (rfl)
@[simp] theorem v_abs : fAbs [.int i] = some (.v (.int (if i < 0 then -i else i))) := (rfl)
@[simp] theorem v_int1 : fInt [.int i] = some (.v (.int i)) := (rfl)
@[simp] theorem v_sum1 : fSum [.list ds] = (intsOf ds).map fun ns => .v (.int ns.sum) := (rfl)
@[simp] theorem v_sum2 : fSum [.tuple ds] = (intsOf ds).map fun ns => .v (.int ns.sum) := (rfl)
@[simp] theorem v_all : fAll [.list ds] = (blsOf ds).map fun bs => .v (.bool (bs.all id)) := (rfl)
@[simp] theorem v_any : fAny [.list ds] = (blsOf ds).map fun bs => .v (.bool (bs.any id)) := (rfl)
@[simp] theorem v_tup1 : fTup [.list ds] = some (.v (.tuple ds)) := (rfl)
@[simp] theorem v_tup2 : fTup [.tuple ds] = some (.v (.tuple ds)) := (rfl)
@[simp] theorem v_lst1 : fLst [.list ds] = some (.nw (.list ds)) := (rfl)
@[simp] theorem v_lst2 : fLst [.tuple ds] = some (.nw (.list ds)) := (rfl)
@[simp] theorem v_max2 : fMax2 [.int i, .int j] = some (.v (.int (if j > i then j else i))) := (rfl)
@[simp] theorem v_min2 : fMin2 [.int i, .int j] = some (.v (.int (if j < i then j else i))) := (rfl)
@[simp] theorem v_cut1 (lo hi : Option Int) : dCut (.list ds) lo hi = some (.nw (.list (cutD ds lo hi))) := (rfl)
@[simp] theorem v_cut2 (lo hi : Option Int) : dCut (.tuple ds) lo hi = some (.v (.tuple (cutD ds lo hi))) := (rfl)
theorem v_app0 : fApp (.list ds) [d] = if ds.length < sizeLine then some (.list (ds ++ [d]), .none) else none := rfl
theorem sl_lt {n : Nat} (h : n ≤ 1000) : n < sizeLine := Nat.lt_of_le_of_lt h (by decide)
@[simp] theorem v_app (h : ds.length ≤ 1000) : fApp (.list ds) [d] = some (.list (ds ++ [d]), .none) := if_pos (sl_lt h)
@[simp] theorem v_tr1 : dTruth .none = some false := (rfl)
@[simp] theorem v_tr2 (b : Bool) : dTruth (.bool b) = some b := (rfl)
@[simp] theorem v_tr3 : dTruth (.int i) = some (i != 0) := (rfl)
@[simp] theorem v_tr4 : dTruth (.list ds) = some (!ds.isEmpty) := (rfl)
@[simp] theorem v_tr5 : dTruth (.tuple ds) = some (!ds.isEmpty) := (rfl)
theorem kb_ii : kitB "int" "int" = some true := by decide +kernel
theorem kb_ib : kitB "int" "bool" = some false := by decide +kernel
theorem kb_tt : kitB "tuple" "tuple" = some true := by decide +kernel
theorem kb_bb : kitB "bool" "bool" = some true := by decide +kernel
theorem kb_bi : kitB "bool" "int" = some true := by decide +kernel
theorem kb_ss : kitB "str" "str" = some true := by decide +kernel
@[simp] theorem v_isi1 : fIsi "int" (.int i) = some (.v (.bool true)) := by unfold fIsi; simp [tyD, kb_ii]
@[simp] theorem v_isi2 : fIsi "bool" (.int i) = some (.v (.bool false)) := by unfold fIsi; simp [tyD, kb_ib]
@[simp] theorem v_isi3 : fIsi "tuple" (.tuple ds) = some (.v (.bool true)) := by unfold fIsi; simp [tyD, kb_tt]
@[simp] theorem v_put1 : setD (.list ds) (.int i) d = (ixN ds.length i).map fun j => .list (ds.set j d) := (rfl)
@[simp] theorem v_rng1 : rng1L [.int j] = if okR j = true then some (rangeD 0 j.toNat) else none := (rfl)
@[simp] theorem v_rng2 : rng2L [.int i, .int j] = if (okR i && okR j) = true then some (rangeD i (j - i).toNat) else none := (rfl)
@[simp] theorem v_en1 : enum1L [d] = (seqD d).map (enumD 0) := (rfl)
@[simp] theorem v_zip2 : zip2L [d, e] = (seqD d).bind fun ds => (seqD e).map fun es => zipD ds es := (rfl)
@[simp] theorem v_seq1 : seqD (.list ds) = some ds := (rfl)
@[simp] theorem v_seq2 : seqD (.tuple ds) = some ds := (rfl)
end
end Iv
set_option Elab.async false
set_option linter.all false
set_option maxRecDepth 100000
set_option maxHeartbeats 2000000
namespace Iv
open PySem L2 PyProof.Rows
variable [Cst]
/-! ### loops, comprehensions -/
theorem forL_inv {b : MB} {body : MS} (P : Nat → Tau → Prop) : ∀ {items : List Dt} {τ : Tau} (k : Nat), P k τ → (∀ i d τ, items[i]? = some d → P (k + i) τ → ∃ τ', kL1 body (b d τ) = some (.nx, τ') ∧ P (k + i + 1) τ') → ∃ τ', forL b body items τ = some (.nx, τ') ∧ P (k + items.length) τ'
  | [], τ, k, h0, _ => ⟨τ, rfl, h0⟩
  | d :: ds, τ, k, h0, hs => by
    obtain ⟨τ1, h1, p1⟩ := hs 0 d τ rfl h0
    obtain ⟨τ2, h2, p2⟩ := forL_inv P (items := ds) (τ := τ1) (k + 1) p1 fun i d' τ' hi p => by
      obtain ⟨τ3, h3, p3⟩ := hs (i + 1) d' τ' (by simpa using hi) (by rw [show k + (i + 1) = k + 1 + i by omega]; exact p)
      exact ⟨τ3, h3, by rw [show k + 1 + i + 1 = k + (i + 1) + 1 by omega]; exact p3⟩
    refine ⟨τ2, ?_, by rw [List.length_cons, show k + (ds.length + 1) = k + 1 + ds.length by omega]; exact p2⟩
    rw [e_forL1, h1]
    exact h2
def kc5 (o : Option Dt) : Option Tau → Option (Option Dt × Tau)
  | some τ => some (o, τ)
  | none => none
def kc4 (vs : List Nat) : OV → Option (Option Dt × Tau)
  | some (e, τ) => kc5 (some e) (wipeT vs τ)
  | none => none
def kc3 (vs : List Nat) : OR → Option (Option Dt × Tau)
  | some (r, τ) => kc4 vs (share r τ)
  | none => none
def kc2 (vs : List Nat) (me : M Rs) : OB → Option (Option Dt × Tau)
  | some (true, τ) => kc3 vs (me τ)
  | some (false, τ) => kc5 none (wipeT vs τ)
  | none => none
def kc1 (vs : List Nat) (t : M Bool) (me : M Rs) : Option Tau → Option (Option Dt × Tau)
  | some τ => kc2 vs me (t τ)
  | none => none
section
variable (vs : List Nat) (t : M Bool) (me : M Rs) (τ : Tau) (e : Dt) (r : Rs) (o : Option Dt)
@[simp] theorem kc5_s : kc5 o (some τ) = some (o, τ) := (rfl)
@[simp] theorem kc4_s : kc4 vs (some (e, τ)) = kc5 (some e) (wipeT vs τ) := (rfl)
@[simp] theorem kc3_s : kc3 vs (some (r, τ)) = kc4 vs (share r τ) := (rfl)
@[simp] theorem kc2_t : kc2 vs me (some (true, τ)) = kc3 vs (me τ) := (rfl)
@[simp] theorem kc2_f : kc2 vs me (some (false, τ)) = kc5 none (wipeT vs τ) := (rfl)
@[simp] theorem kc1_s : kc1 vs t me (some τ) = kc2 vs me (t τ) := (rfl)
end
/-- one turn of a comprehension -/
theorem compL_turn {vs : List Nat} {b : MB} {t : M Bool} {me : M Rs} {d : Dt} {ds acc : List Dt} {τ τ' : Tau} {o : Option Dt} (h : kc1 vs t me (b d τ) = some (o, τ')) (hn : acc.length < sizeLine) : compL vs b t me (d :: ds) acc τ = compL vs b t me ds (acc ++ o.toList) τ' := by
  rw [compL]
  cases hb : b d τ with
  | none => rw [hb] at h; cases h
  | some τ1 =>
    rw [hb] at h
    replace h : kc2 vs me (t τ1) = some (o, τ') := h
    cases ht : t τ1 with
    | none => rw [ht] at h; cases h
    | some p =>
      obtain ⟨c, τ2⟩ := p
      rw [ht] at h
      cases c with
      | true =>
        replace h : kc3 vs (me τ2) = some (o, τ') := h
        cases hm : me τ2 with
        | none => rw [hm] at h; cases h
        | some p =>
          obtain ⟨r, τ3⟩ := p
          rw [hm] at h
          replace h : kc4 vs (share r τ3) = some (o, τ') := h
          cases hsh : share r τ3 with
          | none => rw [hsh] at h; cases h
          | some p =>
            obtain ⟨e, τ4⟩ := p
            rw [hsh] at h
            replace h : kc5 (some e) (wipeT vs τ4) = some (o, τ') := h
            cases hw : wipeT vs τ4 with
            | none => rw [hw] at h; cases h
            | some τ5 =>
              rw [hw] at h
              cases h
              simp only [Option.bind_some, ht, if_true, hm, hsh, hn, hw, Option.toList]
      | false =>
        replace h : kc5 none (wipeT vs τ2) = some (o, τ') := h
        cases hw : wipeT vs τ2 with
        | none => rw [hw] at h; cases h
        | some τ5 =>
          rw [hw] at h
          cases h
          simp only [Option.bind_some, ht, Bool.false_eq_true, if_false, hw, Option.toList, List.append_nil]
/-- a comprehension that changes nothing -/
theorem compL_map {vs : List Nat} {b : MB} {t : M Bool} {me : M Rs} {τ : Tau} (f : Dt → Option Dt) : ∀ {items acc : List Dt}, (∀ d ∈ items, kc1 vs t me (b d τ) = some (f d, τ)) → acc.length + items.length ≤ sizeLine → compL vs b t me items acc τ = some (acc ++ items.filterMap f, τ)
  | [], acc, _, _ => by simp [compL]
  | d :: ds, acc, h, hn => by
    rw [List.length_cons] at hn
    rw [compL_turn (h d (List.mem_cons_self ..)) (by omega), compL_map f (fun d hd => h d (List.mem_cons_of_mem _ hd)) (by
      cases f d <;> simp <;> omega)]
    cases hf : f d <;> simp [List.filterMap_cons, hf]
theorem compL_inv {vs : List Nat} {b : MB} {t : M Bool} {me : M Rs} (P : List Dt → Tau → Prop) : ∀ {items acc : List Dt} {τ : Tau}, P acc τ → (∀ d ∈ items, ∀ acc τ, P acc τ → acc.length < sizeLine ∧ ∃ o τ', kc1 vs t me (b d τ) = some (o, τ') ∧ P (acc ++ o.toList) τ') → ∃ acc' τ', compL vs b t me items acc τ = some (acc', τ') ∧ P acc' τ'
  | [], acc, τ, h0, _ => ⟨acc, τ, rfl, h0⟩
  | d :: ds, acc, τ, h0, hs => by
    obtain ⟨hn, o, τ1, h1, p1⟩ := hs d (List.mem_cons_self ..) acc τ h0
    obtain ⟨acc', τ', h2, p2⟩ := compL_inv P (items := ds) p1 fun d' hd => hs d' (List.mem_cons_of_mem _ hd)
    exact ⟨acc', τ', by rw [compL_turn h1 hn]; exact h2, p2⟩
/-! ### cuts, places, all -/
theorem cut_from (xs : List Dt) (k : Nat) : cutD xs (some (k : Int)) none = xs.drop k := by
  unfold cutD
  rw [HT.sIx_nat, HT.sIx_none]
  by_cases h : k ≤ xs.length
  · rw [Nat.min_eq_left h]
    exact List.take_of_length_le (by rw [List.length_drop]; exact Nat.le_refl _)
  · rw [Nat.min_eq_right (by omega), Nat.sub_self, List.take_zero, List.drop_eq_nil_of_le (by omega)]
theorem cut_to (xs : List Dt) (k : Nat) : cutD xs none (some (k : Int)) = xs.take k := by
  unfold cutD
  rw [HT.sIx_nat, HT.sIx_none, List.drop_zero, Nat.sub_zero]
  by_cases h : k ≤ xs.length
  · rw [Nat.min_eq_left h]
  · rw [Nat.min_eq_right (by omega), List.take_length, List.take_of_length_le (by omega)]
theorem blsOf_map {α : Type} (f : α → Bool) : ∀ l : List α, blsOf (l.map fun x => PyData.bool (f x)) = some (l.map f)
  | [] => rfl
  | x :: l => by rw [List.map_cons, blsOf, blsOf_map f l]; rfl
theorem intsOf_map {α : Type} (f : α → Int) : ∀ l : List α, intsOf (l.map fun x => PyData.int (f x)) = some (l.map f)
  | [] => rfl
  | x :: l => by rw [List.map_cons, intsOf, intsOf_map f l]; rfl
/-- all of them are True -/
theorem all_true {ds : List Dt} {f : Dt → Option Dt} (h : ∀ d ∈ ds, f d = some (.bool true)) : blsOf (ds.filterMap f) = some (List.replicate ds.length true) := by
  induction ds with
  | nil => rfl
  | cons d ds ih =>
    rw [List.filterMap_cons, h d (List.mem_cons_self ..)]
    simp only [blsOf, ih fun d hd => h d (List.mem_cons_of_mem _ hd), List.length_cons, List.replicate_succ, Option.map_some]
theorem at_get {xs : List Dt} {i : Nat} {d : Dt} (h : xs[i]? = some d) : atI xs (i : Int) = some d := atI_nat h
@[simp] theorem bls_rep (n : Nat) : blsOf (List.replicate n (PyData.bool true)) = some (List.replicate n true) := by
  induction n with
  | zero => rfl
  | succ n ih => rw [List.replicate_succ, blsOf, ih]; rfl
/-- a comprehension of Trues -/
theorem compL_true {vs : List Nat} {b : MB} {t : M Bool} {me : M Rs} {τ : Tau} {items : List Dt} (h : ∀ d ∈ items, kc1 vs t me (b d τ) = some (some (.bool true), τ)) (hn : items.length ≤ 1000) : compL vs b t me items [] τ = some (List.replicate items.length (.bool true), τ) := by
  rw [compL_map (fun _ => some (.bool true)) h (by simp; exact sl_small hn)]
  simp only [List.nil_append, List.filterMap_eq_map', List.map_const']
@[simp] theorem all_rep (n : Nat) : (List.replicate n true).all id = true := by
  induction n with
  | zero => rfl
  | succ n ih => rw [List.replicate_succ, List.all_cons, ih]; rfl
/-- len([1 for ..if ..]) -/
theorem compL_count {vs : List Nat} {b : MB} {t : M Bool} {me : M Rs} {τ : Tau} {items : List Dt} (p : Dt → Bool) (h : ∀ d ∈ items, kc1 vs t me (b d τ) = some (if p d then some (.int 1) else none, τ)) (hn : items.length ≤ 1000) : compL vs b t me items [] τ = some (List.replicate (items.countP p) (.int 1), τ) := by
  rw [compL_map (fun d => if p d then some (.int 1) else none) h (by simp; exact sl_small hn)]
  refine congrArg some (congrArg (·, τ) ?_)
  rw [List.nil_append]
  clear h hn
  induction items with
  | nil => rfl
  | cons d ds ih =>
    rw [List.filterMap_cons, List.countP_cons]
    cases p d with
    | true => simp only [if_true, ih, List.replicate_succ]
    | false => simp only [Bool.false_eq_true, if_false, ih, Nat.add_zero]
/-- a comprehension, item by item -/
theorem compL_each {vs : List Nat} {b : MB} {t : M Bool} {me : M Rs} {τ : Tau} {items : List Dt} (f : Dt → Dt) (h : ∀ d ∈ items, kc1 vs t me (b d τ) = some (some (f d), τ)) (hn : items.length ≤ 1000) : compL vs b t me items [] τ = some (items.map f, τ) := by
  rw [compL_map (fun d => some (f d)) h (by simp; exact sl_small hn)]
  simp only [List.nil_append, List.filterMap_eq_map']
theorem okR_s {i : Int} (h : -1000000 ≤ i) (h2 : i ≤ 1000000) : okR i = true := by
  unfold okR
  exact decide_eq_true ⟨by omega, by omega⟩
/-! ### the laws' own hand of cells -/
@[simp] theorem okMul_r (i j : Int) (h : -(2 ^ 64) < j) (h2 : j < 2 ^ 64) : okMul i j = true := by
  unfold okMul
  rw [decide_eq_true (Or.inr ⟨h, h2⟩)]
  rfl
@[simp] theorem okMul_l (i j : Int) (h : -(2 ^ 64) < i) (h2 : i < 2 ^ 64) : okMul i j = true := by
  unfold okMul
  rw [decide_eq_true (Or.inl ⟨h, h2⟩)]
  rfl
@[simp] theorem okMul_m (x m j : Int) (h : 0 < m) (h2 : m ≤ 2 ^ 64) : okMul (x % m) j = true :=
  okMul_l _ _ (by have := Int.emod_nonneg x (show m ≠ 0 by omega); omega) (by have := Int.emod_lt_of_pos x h; omega)
@[simp] theorem okDiv_s (j : Int) (h : 0 < j) (h2 : j < 2 ^ 62) : okDiv j = true := by
  unfold okDiv
  have : j.natAbs.log2 < 9000 := Nat.lt_trans ((Nat.log2_lt (by omega)).2 (show j.natAbs < 2 ^ 62 by omega)) (by decide)
  simp [h, this]
structure Hand where
  cells : List Int
  ix : Nat
  left : Int
  seed : Int
  cnt : Int
def Hand.d (h : Hand) : Dt := .list [.list (h.cells.map .int), .int h.ix, .int h.left, .int h.seed, .int h.cnt]
structure Hand.Ok (h : Hand) : Prop where
  pos : ∀ c ∈ h.cells, 0 ≤ c
  left : 0 ≤ h.left
def drawB : MS := (mSeq (mIf (mAnd (mFlag (mBin dEq (mBin dIxA (mName 0) (mK (.int 2))) (mK (.int 0)))) (mFlag (mBin dLt (mBin dIxA (mName 0) (mK (.int 1))) (mCall fLen (mA (mBin dIxA (mName 0) (mK (.int 0))) mA0))))) (mSeq (mSet 2 (mBin dIxA (mBin dIxA (mName 0) (mK (.int 0))) (mBin dIxA (mName 0) (mK (.int 1)))))
  (mSeq (mSetIt 0 (mK (.int 1)) (mBin dAdd (mBin dIxA (mName 0) (mK (.int 1))) (mK (.int 1))))
  (mSeq (mSetIt 0 (mK (.int 3)) (mBin dMod (mCall fInt (mA (mBin dAdd (mBin dAdd (mBin dMul (mBin dIxA (mName 0) (mK (.int 3))) (mK (.int 69621))) (mBin dMul (mName 2) (mK (.int 40692)))) (mK (.int 31))) mA0)) (mK (.int 2147483629))))
  (mIf (mFlag (mBin dGe (mName 2) (mBin dPow (mK (.int 10)) (mK (.int 18))))) (mSetIt 0 (mK (.int 2)) (mName 2)) mNx)))) mNx)
  (mSeq (mIf (mFlag (mBin dGt (mBin dIxA (mName 0) (mK (.int 2))) (mK (.int 0)))) (mSeq (mSet 3 (mBin dMod (mCall fInt (mA (mBin dIxA (mName 0) (mK (.int 2))) mA0)) (mName 1)))
  (mSeq (mSetIt 0 (mK (.int 2)) (mBin dDiv (mBin dIxA (mName 0) (mK (.int 2))) (mName 1)))
  (mRet (mName 3)))) mNx)
  (mSeq (mSetIt 0 (mK (.int 4)) (mBin dAdd (mBin dIxA (mName 0) (mK (.int 4))) (mK (.int 1))))
  (mSeq (mSet 4 (mBin dMod (mCall fInt (mA (mBin dMul (mCall fInt (mA (mBin dAdd (mBin dIxA (mName 0) (mK (.int 3))) (mBin dMul (mK (.int 7919)) (mBin dIxA (mName 0) (mK (.int 4))))) mA0)) (mK (.int 48271))) mA0)) (mK (.int 2147483647))))
  (mSeq (mSet 4 (mBin dMod (mCall fInt (mA (mBin dMul (mName 4) (mBin dAdd (mBin dDiv (mName 4) (mK (.int 1009))) (mK (.int 69621)))) mA0)) (mK (.int 2147483647))))
  (mSeq (mSet 4 (mBin dMod (mCall fInt (mA (mBin dMul (mName 4) (mBin dAdd (mBin dDiv (mName 4) (mK (.int 2003))) (mK (.int 40014)))) mA0)) (mK (.int 2147483563))))
  (mRet (mBin dMod (mCall fInt (mA (mBin dDiv (mName 4) (mK (.int 16))) mA0)) (mName 1)))))))))
def drawF : M (Dt × Bool) := gFn 2 5 drawB
section
variable (a b c d e x : Dt)
@[simp] theorem at5_0 : atI [a, b, c, d, e] 0 = some a := (rfl)
@[simp] theorem at5_1 : atI [a, b, c, d, e] 1 = some b := (rfl)
@[simp] theorem at5_2 : atI [a, b, c, d, e] 2 = some c := (rfl)
@[simp] theorem at5_3 : atI [a, b, c, d, e] 3 = some d := (rfl)
@[simp] theorem at5_4 : atI [a, b, c, d, e] 4 = some e := (rfl)
@[simp] theorem ix5_1 : ixN 5 1 = some 1 := (rfl)
@[simp] theorem ix5_2 : ixN 5 2 = some 2 := (rfl)
@[simp] theorem ix5_3 : ixN 5 3 = some 3 := (rfl)
@[simp] theorem ix5_4 : ixN 5 4 = some 4 := (rfl)
end
theorem pow18 : dPow (.int 10) (.int 18) = some (.v (.int 1000000000000000000)) := by
  simp only [dPow]
  rw [if_pos (by decide)]
  rfl
theorem draw_spec (h : Hand) (ok : h.Ok) (many : Int) (h0 : 0 < many) (h1 : many < 2 ^ 62) : ∃ (r : Int) (h' : Hand), drawF [.ow true h.d, .sh (.int many)] = some ((.int r, false), [.ow true h'.d, .un]) ∧ 0 ≤ r ∧ r < many ∧ h'.Ok := by
  obtain ⟨cells, i, left, seed, cnt⟩ := h
  have od := okDiv_s many h0 h1
  have e0 : drawF [.ow true (Hand.d ⟨cells, i, left, seed, cnt⟩), .sh (.int many)] = kFn [.ow true (Hand.d ⟨cells, i, left, seed, cnt⟩), .sh (.int many)] (drawB [.ow true (Hand.d ⟨cells, i, left, seed, cnt⟩), .sh (.int many), .un, .un, .un]) := e_gFn _ _ _ _ rfl (by decide) rfl
  rw [e0]
  unfold drawB
  have hl0 : 0 ≤ left := ok.left
  by_cases hl : left = 0
  · subst hl
    by_cases hi : (i : Int) < cells.length
    · have hi' : i < cells.length := by omega
      have ha : atI (cells.map PyData.int) (i : Int) = some (.int cells[i]) := atI_nat (by rw [List.getElem?_map, List.getElem?_eq_getElem hi']; rfl)
      have hc := ok.pos cells[i] (List.getElem_mem hi')
      by_cases hb : 1000000000000000000 ≤ cells[i]
      · have hp : 0 < cells[i] := by omega
        simp [Hand.d, hi, h0, od, ha, pow18, hb, hp]
        exact ⟨_, ⟨cells, i + 1, _, _, cnt⟩, ⟨rfl, rfl, by simp, rfl, rfl, rfl⟩, Int.emod_nonneg _ (by omega), Int.emod_lt_of_pos _ h0, ok.pos, Int.ediv_nonneg hc (by omega)⟩
      · simp [Hand.d, hi, h0, od, ha, pow18, hb]
        exact ⟨_, ⟨cells, i + 1, 0, _, _⟩, ⟨rfl, rfl, by simp, rfl, rfl, rfl⟩, Int.emod_nonneg _ (by omega), Int.emod_lt_of_pos _ h0, ok.pos, by simp⟩
    · simp [Hand.d, hi, h0, od]
      exact ⟨_, ⟨cells, i, 0, _, _⟩, ⟨rfl, rfl, by simp, rfl, rfl, rfl⟩, Int.emod_nonneg _ (by omega), Int.emod_lt_of_pos _ h0, ok.pos, by simp⟩
  · have hp : 0 < left := by omega
    simp [Hand.d, hl, hp, h0, od]
    exact ⟨_, ⟨cells, i, _, _, _⟩, ⟨rfl, rfl, by simp, rfl, rfl, rfl⟩, Int.emod_nonneg _ (by omega), Int.emod_lt_of_pos _ h0, ok.pos, Int.ediv_nonneg hl0 (by omega)⟩
/-! the hand is made -/
def handB (s0 : Int) : MS := (mSeq (mSet 1 (mComp (mHold (mCut (mName 0) mO0 (mO (mK (.int 63))))) [2] (bName 2) tAll (mCall fAbs (mA (mCall fInt (mA (mName 2) mA0)) mA0))))
  (mRet (mLst (mA (mName 1) (mA (mK (.int 0)) (mA (mK (.int 0)) (mA (mBin dAdd (mK (.int s0)) (mBin dMul (mK (.int 7)) (mCall fLen (mA (mName 1) mA0)))) (mA (mK (.int 0)) mA0))))))))
def handF (s0 : Int) : M (Dt × Bool) := gFn 1 3 (handB s0)
theorem cut_all {ds : List Dt} (h : ds.length ≤ 63) : cutD ds none (some 63) = ds := by
  unfold cutD
  rw [show (63 : Int) = ((63 : Nat) : Int) from rfl, HT.sIx_nat, HT.sIx_none, List.drop_zero, Nat.sub_zero, Nat.min_eq_right h, List.take_length]
def absI (i : Int) : Int := if i < 0 then -i else i
theorem absI_pos (i : Int) : 0 ≤ absI i := by unfold absI; split <;> omega
def hand0 (s0 : Int) (ns : List Int) : Hand := ⟨ns.map absI, 0, 0, s0 + 7 * (ns.length : Int), 0⟩
theorem hand0_ok (s0 : Int) (ns : List Int) : (hand0 s0 ns).Ok := ⟨fun c hc => by
  obtain ⟨i, _, rfl⟩ := List.mem_map.mp hc
  exact absI_pos i, by simp [hand0]⟩
theorem hand_spec (s0 : Int) (ns : List Int) (h : ns.length ≤ 63) : handF s0 [.sh (.list (ns.map .int))] = some (((hand0 s0 ns).d, true), [.un]) := by
  have e0 : handF s0 [.sh (.list (ns.map .int))] = kFn [.sh (.list (ns.map .int))] (handB s0 [.sh (.list (ns.map .int)), .un, .un]) := e_gFn _ _ _ _ rfl (by decide) rfl
  rw [e0]
  unfold handB
  have hc : cutD (ns.map PyData.int) none (some 63) = ns.map PyData.int := cut_all (by rw [List.length_map]; exact h)
  have hm : compL [2] (bName 2) tAll (mCall fAbs (mA (mCall fInt (mA (mName 2) mA0)) mA0)) (ns.map PyData.int) [] [.sh (.list (ns.map .int)), .un, .un] = some ((ns.map absI).map PyData.int, [.sh (.list (ns.map .int)), .un, .un]) := by
    rw [compL_map (fun d => match d with | .int i => some (.int (absI i)) | _ => none)]
    · simp [List.filterMap_map, Function.comp_def]
    · intro d hd
      obtain ⟨i, _, rfl⟩ := List.mem_map.mp hd
      simp [absI]
    · simp
      exact sl_small (by omega)
  simp [hc, hm, hand0, Hand.d]
/-! came is due -/
def isB : MS := (mRet (mBin dEq (mCall fRepr (mA (mName 0) mA0)) (mCall fRepr (mA (mName 1) mA0))))
def isF : M (Dt × Bool) := gFn 2 2 isB
theorem is_spec (d : Dt) (h : ∃ x, fRepr [d] = some (.v (.str x))) : isF [.sh d, .sh d] = some ((.bool true, false), [.un, .un]) := by
  have e0 : isF [.sh d, .sh d] = kFn [.sh d, .sh d] (isB [.sh d, .sh d]) := e_gFn _ _ _ _ rfl (by decide) rfl
  rw [e0]
  unfold isB
  obtain ⟨x, hx⟩ := h
  simp [hx]
end Iv
set_option Elab.async false
set_option linter.all false
set_option maxRecDepth 100000
set_option maxHeartbeats 2000000
namespace Iv
open PySem L2 PyProof.Rows
variable [Cst]
/-! ### whole numbers, tuples of them -/
def nD (n : Nat) : PyData := .int (n : Int)
abbrev TN (r : List Nat) : PyData := .tuple (r.map nD)
theorem nD_inj {a b : Nat} (h : nD a = nD b) : a = b := by
  unfold nD at h
  injection h with h
  omega
@[simp] theorem v_addt (xs ys : List Dt) (h : xs.length + ys.length ≤ 1000) : dAdd (.tuple xs) (.tuple ys) = some (.v (.tuple (xs ++ ys))) := if_pos (sl_small h)
theorem take_snoc {α : Type} {l : List α} {i : Nat} {x : α} (h : l[i]? = some x) : l.take (i + 1) = l.take i ++ [x] := by
  rw [List.take_add_one, h]; rfl
theorem sumI {r : List Nat} : intsOf (r.map nD) = some (r.map fun x : Nat => (x : Int)) := intsOf_map (fun x : Nat => (x : Int)) r
theorem sumN : ∀ r : List Nat, (r.map fun x : Nat => (x : Int)).sum = ((r.sum : Nat) : Int)
  | [] => rfl
  | x :: r => by rw [List.map_cons, List.sum_cons, List.sum_cons, sumN r]; omega
/-! ### tables: tuples of whole numbers to whole numbers -/
abbrev Tab := List (List Nat × Nat)
def tabD (D : Tab) : List (Dt × Dt) := D.map fun p => (TN p.1, nD p.2)
def kk (c : List Nat) : Key2 := .inr (c.map fun n : Nat => Sum.inl (n : Int))
theorem kLD_n : ∀ c : List Nat, kLD (c.map nD) = some (c.map fun n : Nat => Sum.inl (n : Int))
  | [] => rfl
  | n :: c => by
    rw [List.map_cons, kLD, kLD_n c]
    rfl
theorem keyD_n (c : List Nat) : keyD (TN c) = some (kk c) := by
  show (kLD (c.map nD)).map Sum.inr = _
  rw [kLD_n]
  rfl
theorem kk_inj {a b : List Nat} (h : kk a = kk b) : a = b := by
  unfold kk at h
  injection h with h
  have inj : Function.Injective (fun n : Nat => (Sum.inl (n : Int) : Key)) := fun x y q => by
    injection q with q
    omega
  exact (List.map_inj_right (fun x y q => inj q)).mp h
def val (D : Tab) (t : List Nat) : Nat := ((D.find? fun p => decide (p.1 = t)).map (·.2)).getD 0
def put (D : Tab) (t : List Nat) (v : Nat) : Tab := if (D.any fun p => decide (p.1 = t)) = true then D.map (fun p => if p.1 = t then (p.1, v) else p) else D ++ [(t, v)]
theorem dec_key (p t : List Nat) : decide (keyD (TN p) = some (kk t)) = decide (p = t) := by
  rw [keyD_n]
  rw [Bool.eq_iff_iff]
  simp only [decide_eq_true_eq, Option.some.injEq]
  exact ⟨kk_inj, fun h => by rw [h]⟩
theorem getK_n (D : Tab) (t : List Nat) : getK (tabD D) (kk t) = (D.find? fun p => decide (p.1 = t)).map fun p => nD p.2 := by
  induction D with
  | nil => rfl
  | cons p D ih =>
    unfold getK at ih ⊢
    rw [tabD, List.map_cons, List.find?_cons, List.find?_cons, dec_key]
    cases h : decide (p.1 = t) with
    | true => rfl
    | false => exact ih
theorem likeK_n (D : Tab) (t : List Nat) : likeK (tabD D) (kk t) = true := by
  unfold likeK tabD
  rw [List.all_map, List.all_eq_true]
  intro p _
  simp [keyD_n, isK, kk]
theorem putD_n (D : Tab) (t : List Nat) (v : Nat) : putD (tabD D) (TN t) (kk t) (nD v) = tabD (put D t v) := by
  unfold putD put
  have e1 : ((tabD D).any fun p => decide (keyD p.1 = some (kk t))) = D.any fun p => decide (p.1 = t) := by
    unfold tabD
    rw [List.any_map]
    congr 1
    funext p
    exact dec_key p.1 t
  rw [e1]
  split
  · unfold tabD
    rw [List.map_map, List.map_map]
    refine List.map_congr_left fun p _ => ?_
    have := dec_key p.1 t
    by_cases h : p.1 = t
    · simp [h, keyD_n]
    · have h2 : keyD (TN p.1) ≠ some (kk t) := fun z => h (by simpa [z] using this.symm)
      simp [h, h2]
  · unfold tabD
    rw [List.map_append]
    rfl
@[simp] theorem tabD_len (D : Tab) : (tabD D).length = D.length := List.length_map ..
theorem get0 (ht : Cst.tk = true) (D : Tab) (t : List Nat) : getM (.dict (tabD D)) [TN t, .int 0] = some (.v (nD (val D t))) := by
  show (keyQ (TN t)).bind _ = _
  rw [keyQ_all ht, keyD_n]
  show (if likeK (tabD D) (kk t) = true then _ else none) = _
  rw [if_pos (likeK_n D t), getK_n]
  unfold val
  cases D.find? fun p => decide (p.1 = t) <;> rfl
theorem ixT (ht : Cst.tk = true) {D : Tab} {t : List Nat} {v : Nat} (h : (D.find? fun p => decide (p.1 = t)) = some (t, v)) : dIxA (.dict (tabD D)) (TN t) = some (.v (nD v)) := by
  show (keyQ (TN t)).bind _ = _
  rw [keyQ_all ht, keyD_n]
  show (if likeK (tabD D) (kk t) = true then _ else none) = _
  rw [if_pos (likeK_n D t), getK_n, h]
  rfl
theorem setT (ht : Cst.tk = true) (D : Tab) (t : List Nat) (v : Nat) (h : D.length ≤ 1000000) : setD (.dict (tabD D)) (TN t) (nD v) = some (.dict (tabD (put D t v))) := by
  show (keyQ (TN t)).bind _ = _
  rw [keyQ_all ht, keyD_n]
  show (if (likeK (tabD D) (kk t) && decide ((tabD D).length < sizeLine)) = true then _ else none) = _
  rw [likeK_n, tabD_len, decide_eq_true (Nat.lt_of_le_of_lt h (by decide)), putD_n]
  rfl
theorem put_len (D : Tab) (t : List Nat) (v : Nat) : (put D t v).length ≤ D.length + 1 := by
  unfold put
  split
  · rw [List.length_map]; omega
  · rw [List.length_append]; simp
/-- one more at t -/
def addT (D : Tab) (u : List Nat × Nat) : Tab := put D u.1 (val D u.1 + u.2)
theorem find_some {D : Tab} {t : List Nat} {p : List Nat × Nat} (h : (D.find? fun p => decide (p.1 = t)) = some p) : p.1 = t ∧ p ∈ D :=
  ⟨by have := List.find?_some h; simpa using this, List.mem_of_find?_eq_some h⟩
theorem val_put (D : Tab) (t : List Nat) (v : Nat) (c : List Nat) : val (put D t v) c = if c = t then v else val D c := by
  unfold put
  split
  · rename_i h
    unfold val
    induction D with
    | nil => simp at h
    | cons p D ih =>
      rw [List.map_cons, List.find?_cons, List.find?_cons]
      by_cases hp : p.1 = t
      · by_cases hc : c = t
        · subst hc
          simp [hp]
        · have h3 : ¬ t = c := fun z => hc z.symm
          have h4 : decide (p.1 = c) = false := decide_eq_false fun z => hc (by rw [← z, hp])
          simp only [hp, if_true, h3, decide_false]
          rw [if_neg hc]
          by_cases hD : (D.any fun p => decide (p.1 = t)) = true
          · have := ih hD
            rw [if_neg hc] at this
            exact this
          · have hno : ∀ q ∈ D, ¬ q.1 = t := fun q hq z => hD (List.any_eq_true.mpr ⟨q, hq, decide_eq_true z⟩)
            have e : (D.map fun p => if p.1 = t then (p.1, v) else p) = D := by
              conv => rhs; rw [← List.map_id D]
              exact List.map_congr_left fun q hq => by rw [if_neg (hno q hq)]; rfl
            rw [e]
      · have hD : (D.any fun p => decide (p.1 = t)) = true := by simpa [hp] using h
        simp only [hp, if_false]
        by_cases h2 : p.1 = c
        · have hc : ¬ c = t := fun z => hp (by rw [h2, z])
          simp [h2, hc]
        · simp only [h2, decide_false]
          exact ih hD
  · rename_i h
    have hno : ∀ q ∈ D, ¬ q.1 = t := fun q hq z => h (List.any_eq_true.mpr ⟨q, hq, decide_eq_true z⟩)
    unfold val
    rw [List.find?_append]
    by_cases hc : c = t
    · subst hc
      have : (D.find? fun p => decide (p.1 = c)) = none := List.find?_eq_none.mpr fun q hq => by simp [hno q hq]
      simp [this]
    · have h3 : ¬ t = c := fun z => hc z.symm
      rw [if_neg hc]
      cases D.find? fun p => decide (p.1 = c) <;> simp [h3]
theorem keys_put (D : Tab) (t : List Nat) (v : Nat) (c : List Nat) : c ∈ (put D t v).map (·.1) ↔ c ∈ D.map (·.1) ∨ c = t := by
  unfold put
  split
  · rename_i h
    have e : (D.map fun p => if p.1 = t then (p.1, v) else p).map (·.1) = D.map (·.1) := by
      rw [List.map_map]
      exact List.map_congr_left fun p _ => by by_cases hp : p.1 = t <;> simp [hp]
    rw [e]
    constructor
    · exact .inl
    · rintro (h2 | h2)
      · exact h2
      · obtain ⟨q, hq, z⟩ := List.any_eq_true.mp h
        exact List.mem_map.mpr ⟨q, hq, by rw [h2]; exact of_decide_eq_true z⟩
  · rw [List.map_append, List.mem_append]
    simp
theorem nodup_put (D : Tab) (t : List Nat) (v : Nat) (h : (D.map (·.1)).Nodup) : ((put D t v).map (·.1)).Nodup := by
  unfold put
  split
  · have e : (D.map fun p => if p.1 = t then (p.1, v) else p).map (·.1) = D.map (·.1) := by
      rw [List.map_map]
      exact List.map_congr_left fun p _ => by by_cases hp : p.1 = t <;> simp [hp]
    rw [e]
    exact h
  · rename_i hn
    rw [List.map_append, List.nodup_append]
    refine ⟨h, by simp, fun a ha b hb => ?_⟩
    obtain rfl : b = t := by simpa using hb
    intro z
    subst z
    obtain ⟨q, hq, e⟩ := List.mem_map.mp ha
    exact hn (List.any_eq_true.mpr ⟨q, hq, decide_eq_true e⟩)
def wt (us : List (List Nat × Nat)) (c : List Nat) : Nat := (us.map fun u => if u.1 = c then u.2 else 0).sum
theorem fold_val (us : List (List Nat × Nat)) : ∀ (D : Tab) (c : List Nat), val (us.foldl addT D) c = val D c + wt us c := by
  induction us with
  | nil => intro D c; simp [wt]
  | cons u us ih =>
    intro D c
    rw [List.foldl_cons, ih, addT, val_put]
    unfold wt
    rw [List.map_cons, List.sum_cons]
    by_cases h : c = u.1
    · subst h
      simp
      omega
    · have h2 : ¬ u.1 = c := fun z => h z.symm
      simp [h, h2]
theorem fold_keys (us : List (List Nat × Nat)) : ∀ (D : Tab) (c : List Nat), c ∈ (us.foldl addT D).map (·.1) ↔ c ∈ D.map (·.1) ∨ ∃ u ∈ us, u.1 = c := by
  induction us with
  | nil => intro D c; simp
  | cons u us ih =>
    intro D c
    rw [List.foldl_cons, ih, addT, keys_put]
    constructor
    · rintro ((h | h) | ⟨w, hw, h⟩)
      · exact .inl h
      · exact .inr ⟨u, List.mem_cons_self .., h.symm⟩
      · exact .inr ⟨w, List.mem_cons_of_mem _ hw, h⟩
    · rintro (h | ⟨w, hw, h⟩)
      · exact .inl (.inl h)
      · rcases List.mem_cons.mp hw with rfl | hw
        · exact .inl (.inr h.symm)
        · exact .inr ⟨w, hw, h⟩
theorem fold_nodup (us : List (List Nat × Nat)) : ∀ D : Tab, (D.map (·.1)).Nodup → ((us.foldl addT D).map (·.1)).Nodup := by
  induction us with
  | nil => intro D h; exact h
  | cons u us ih => intro D h; exact ih _ (nodup_put D _ _ h)
theorem fold_len (us : List (List Nat × Nat)) : ∀ D : Tab, (us.foldl addT D).length ≤ D.length + us.length := by
  induction us with
  | nil => intro D; simp
  | cons u us ih =>
    intro D
    have h1 := ih (addT D u)
    have h2 := put_len D u.1 (val D u.1 + u.2)
    rw [List.foldl_cons, List.length_cons]
    unfold addT at h1 ⊢
    omega
theorem find_val : ∀ {D : Tab}, (D.map (·.1)).Nodup → ∀ p ∈ D, (D.find? fun q => decide (q.1 = p.1)) = some p ∧ val D p.1 = p.2
  | [], _, p, hp => by cases hp
  | q :: D, h, p, hp => by
    rw [List.map_cons, List.nodup_cons] at h
    rcases List.mem_cons.mp hp with rfl | hp
    · have e : ((p :: D).find? fun q => decide (q.1 = p.1)) = some p := by simp
      exact ⟨e, by unfold val; rw [e]; rfl⟩
    · have hne : ¬ q.1 = p.1 := fun z => h.1 (List.mem_map.mpr ⟨p, hp, z.symm⟩)
      obtain ⟨h1, h2⟩ := find_val h.2 p hp
      have e : ((q :: D).find? fun r => decide (r.1 = p.1)) = some p := by rw [List.find?_cons, decide_eq_false hne]; exact h1
      exact ⟨e, by unfold val; rw [e]; rfl⟩
/-- a table is its keys and what stands there -/
theorem tab_eq {D : Tab} (h : (D.map (·.1)).Nodup) {f : List Nat → Nat} (hv : ∀ c ∈ D.map (·.1), val D c = f c) : D = (D.map (·.1)).map fun c => (c, f c) := by
  rw [List.map_map]
  conv => lhs; rw [← List.map_id D]
  refine List.map_congr_left fun p hp => ?_
  have h1 := (find_val h p hp).2
  have h2 := hv p.1 (List.mem_map.mpr ⟨p, hp, rfl⟩)
  show p = (p.1, f p.1)
  rw [← h2, h1]
/-! ### sums -/
theorem sum_add {α : Type} (l : List α) (f g : α → Nat) : (l.map fun x => f x + g x).sum = (l.map f).sum + (l.map g).sum := by
  induction l with
  | nil => rfl
  | cons x l ih => simp only [List.map_cons, List.sum_cons, ih]; omega
theorem sum_zero {α : Type} (l : List α) (f : α → Nat) (h : ∀ x ∈ l, f x = 0) : (l.map f).sum = 0 := by
  induction l with
  | nil => rfl
  | cons x l ih => rw [List.map_cons, List.sum_cons, h x (List.mem_cons_self ..), ih fun y hy => h y (List.mem_cons_of_mem _ hy)]
theorem sum_swap {α β : Type} (l : List α) (m : List β) (f : α → β → Nat) : (l.map fun x => (m.map fun y => f x y).sum).sum = (m.map fun y => (l.map fun x => f x y).sum).sum := by
  induction l with
  | nil => rw [List.map_nil, List.sum_nil]; exact (sum_zero m _ fun y _ => rfl).symm
  | cons x l ih =>
    rw [List.map_cons, List.sum_cons, ih, ← sum_add]
    rfl
theorem sum_at {α : Type} [DecidableEq α] {l : List α} (h : l.Nodup) (x : α) (v : Nat) : (l.map fun y => if y = x then v else 0).sum = if x ∈ l then v else 0 := by
  induction l with
  | nil => rfl
  | cons y l ih =>
    rw [List.nodup_cons] at h
    rw [List.map_cons, List.sum_cons, ih h.2]
    by_cases hy : y = x
    · subst hy
      simp [h.1]
    · have : ¬ x = y := fun z => hy z.symm
      simp [hy, this]
theorem nodup_sub {α : Type} [DecidableEq α] : ∀ {l m : List α}, l.Nodup → (∀ x ∈ l, x ∈ m) → l.length ≤ m.length
  | [], _, _, _ => Nat.zero_le _
  | x :: l, m, h, hs => by
    rw [List.nodup_cons] at h
    have hx := hs x (List.mem_cons_self ..)
    have h1 : l.length ≤ (m.erase x).length := nodup_sub h.2 fun y hy => by
      have ne : y ≠ x := fun z => h.1 (by rw [← z]; exact hy)
      exact (List.mem_erase_of_ne ne).mpr (hs y (List.mem_cons_of_mem _ hy))
    rw [List.length_erase_of_mem hx] at h1
    have : 0 < m.length := List.length_pos_of_mem hx
    rw [List.length_cons]
    omega
theorem wt_map (us : List (List Nat)) (w : Nat) (t : List Nat) : wt (us.map fun u => (u, w)) t = (us.map fun u => if u = t then w else 0).sum := by
  unfold wt
  rw [List.map_map]
  rfl
theorem wt_app (us vs : List (List Nat × Nat)) (t : List Nat) : wt (us ++ vs) t = wt us t + wt vs t := by
  unfold wt
  rw [List.map_append, List.sum_append]
theorem wt_flat {α : Type} (l : List α) (f : α → List (List Nat × Nat)) (t : List Nat) : wt (l.flatMap f) t = (l.map fun x => wt (f x) t).sum := by
  induction l with
  | nil => rfl
  | cons x l ih => rw [List.flatMap_cons, wt_app, ih, List.map_cons, List.sum_cons]
theorem wt_filt {α : Type} (l : List α) (p : α → Bool) (f : α → List Nat) (w : Nat) (t : List Nat) : wt ((l.filterMap fun i => if p i = true then some (f i) else none).map fun u => (u, w)) t = (l.map fun i => if p i = true ∧ f i = t then w else 0).sum := by
  rw [wt_map]
  induction l with
  | nil => rfl
  | cons x l ih =>
    rw [List.filterMap_cons, List.map_cons, List.sum_cons]
    cases h : p x with
    | true => simp only [if_true, List.map_cons, List.sum_cons, ih, true_and]
    | false => simp [ih]
end Iv
set_option Elab.async false
set_option linter.all false
set_option maxRecDepth 100000
set_option maxHeartbeats 2000000
namespace Iv
open PySem L2 PyProof.Rows
variable [Cst]
/-! ### what may be shown -/
structure Sho (B D W : Nat) (d : Dt) : Prop where
  lay : d.canLay0 = true
  show' : d.showable = true
  short : d.intsShort B = true
  depth : d.depth ≤ D
  weight : d.weight ≤ W
theorem sho_int {i : Int} (h : i.natAbs < 10 ^ 12) : Sho 13 0 40 (.int i) := by
  have hl : i.natAbs.log2 < 40 := by
    by_cases h0 : i.natAbs = 0
    · rw [h0]; decide
    · exact (Nat.log2_lt h0).2 (Nat.lt_of_lt_of_le h (by decide))
  refine ⟨by simp only [PyData.canLay0], by simp only [PyData.showable]; exact decide_eq_true (by omega), by simp only [PyData.intsShort]; exact decide_eq_true (PyData.shown_int_le h), by simp only [PyData.depth]; exact Nat.le_refl _, ?_⟩
  simp only [PyData.weight]
  split <;> omega
theorem sho_all {B D W : Nat} : ∀ {xs : List Dt}, (∀ x ∈ xs, Sho B D W x) → PyData.canLayAll0 xs = true ∧ PyData.showableAll xs = true ∧ PyData.intsShortAll B xs = true ∧ PyData.depthAll xs ≤ D ∧ PyData.weightAll xs ≤ xs.length * (W + 1)
  | [], _ => by simp [PyData.canLayAll0, PyData.showableAll, PyData.intsShortAll, PyData.depthAll, PyData.weightAll]
  | x :: xs, h => by
    have h1 := h x (List.mem_cons_self ..)
    obtain ⟨h2, h3, h4, h5, h6⟩ := sho_all fun y hy => h y (List.mem_cons_of_mem _ hy)
    have h7 := h1.weight
    have h8 := h1.depth
    refine ⟨by simp only [PyData.canLayAll0, h1.lay, h2, Bool.and_self], by simp only [PyData.showableAll, h1.show', h3, Bool.and_self], by simp only [PyData.intsShortAll, h1.short, h4, Bool.and_self], by simp only [PyData.depthAll]; omega, ?_⟩
    simp only [PyData.weightAll, List.length_cons, Nat.add_mul]
    omega
theorem sho_tup {B D W N : Nat} {xs : List Dt} (h : ∀ x ∈ xs, Sho B D W x) (hn : xs.length ≤ N) : Sho B (D + 1) (N * (W + 1)) (.tuple xs) := by
  obtain ⟨h2, h3, h4, h5, h6⟩ := sho_all h
  exact ⟨by simp only [PyData.canLay0, h2], by simp only [PyData.showable, h3], by simp only [PyData.intsShort, h4], by simp only [PyData.depth]; omega, by simp only [PyData.weight]; exact Nat.le_trans h6 (Nat.mul_le_mul_right _ hn)⟩
theorem sho_lst {B D W N : Nat} {xs : List Dt} (h : ∀ x ∈ xs, Sho B D W x) (hn : xs.length ≤ N) : Sho B (D + 1) (N * (W + 1)) (.list xs) := by
  obtain ⟨h2, h3, h4, h5, h6⟩ := sho_all h
  exact ⟨by simp only [PyData.canLay0, h2], by simp only [PyData.showable, h3], by simp only [PyData.intsShort, h4], by simp only [PyData.depth]; omega, by simp only [PyData.weight]; exact Nat.le_trans h6 (Nat.mul_le_mul_right _ hn)⟩
theorem sho_ok {D W : Nat} {d : Dt} (h : Sho 13 D W d) (hD : D ≤ 60) (hW : W ≤ 2 ^ 20) : okRepr d = true := by
  have hl := PyData.leavesShort_of_canLay0 13 d h.lay h.short
  have hs := PyData.shown_fits (by decide : 8 ≤ 13) (by decide) hl (Nat.le_trans h.weight hW)
  unfold okRepr
  simp only [h.lay, h.show', Bool.true_and, Bool.and_eq_true, decide_eq_true_eq]
  exact ⟨Nat.le_trans h.depth hD, hs⟩
theorem repr_tup {D W : Nat} {xs : List Dt} (h : Sho 13 D W (.tuple xs)) (hD : D ≤ 60) (hW : W ≤ 2 ^ 20) : ∃ x, fRepr [.tuple xs] = some (.v (.str x)) :=
  ⟨(PyData.tuple xs).shown, if_pos (sho_ok h hD hW)⟩
theorem repr_lst {D W : Nat} {xs : List Dt} (h : Sho 13 D W (.list xs)) (hD : D ≤ 60) (hW : W ≤ 2 ^ 20) : ∃ x, fRepr [.list xs] = some (.v (.str x)) :=
  ⟨(PyData.list xs).shown, if_pos (sho_ok h hD hW)⟩
theorem repr_int {i : Int} (h : i.natAbs < 2 ^ 1920) : ∃ x, fRepr [.int i] = some (.v (.str x)) := by
  refine ⟨(PyData.int i).shown, if_pos ?_⟩
  by_cases h0 : i.natAbs = 0
  · rw [h0]; decide
  · exact (Nat.log2_lt h0).2 h
/-- a comprehension with a state -/
theorem compL_invI {vs : List Nat} {b : MB} {t : M Bool} {me : M Rs} (P : Nat → List Dt → Tau → Prop) : ∀ {items acc : List Dt} {τ : Tau} (k : Nat), P k acc τ → acc.length + items.length ≤ 1000 → (∀ i d, items[i]? = some d → ∀ acc τ, P (k + i) acc τ → ∃ o τ', kc1 vs t me (b d τ) = some (o, τ') ∧ P (k + i + 1) (acc ++ o.toList) τ') → ∃ acc' τ', compL vs b t me items acc τ = some (acc', τ') ∧ P (k + items.length) acc' τ'
  | [], acc, τ, k, h0, _, _ => ⟨acc, τ, rfl, h0⟩
  | d :: ds, acc, τ, k, h0, hn, hs => by
    rw [List.length_cons] at hn
    obtain ⟨o, τ1, h1, p1⟩ := hs 0 d rfl acc τ h0
    obtain ⟨acc', τ', h2, p2⟩ := compL_invI P (items := ds) (k + 1) p1 (by cases o <;> simp <;> omega) fun i d' hi acc τ p => by
      obtain ⟨o, τ', e, q⟩ := hs (i + 1) d' (by simpa using hi) acc τ (by rw [show k + (i + 1) = k + 1 + i by omega]; exact p)
      exact ⟨o, τ', e, by rw [show k + 1 + i + 1 = k + (i + 1) + 1 by omega]; exact q⟩
    exact ⟨acc', τ', by rw [compL_turn h1 (sl_lt (by omega))]; exact h2, by rw [List.length_cons, show k + (ds.length + 1) = k + 1 + ds.length by omega]; exact p2⟩
@[simp] theorem v_addl (xs ys : List Dt) (h : xs.length + ys.length ≤ 1000) : dAdd (.list xs) (.list ys) = some (.nw (.list (xs ++ ys))) := if_pos (sl_small h)
@[simp] theorem at_neg1 (xs : List Dt) (x : Dt) : atI (xs ++ [x]) (-1) = some x := atI_last xs x
end Iv
set_option Elab.async false
set_option linter.all false
set_option maxRecDepth 100000
set_option maxHeartbeats 1000000
namespace Iv
open PySem L2
variable [Cst]
/-! ### several results at once, new things kept -/
inductive WaitsF (K : PySem.W.Frag) (E : AS) (τ : Tau) (σ : L2.St) (H : Hp) : List Rs → List V → List Addr → Prop
  | nil : WaitsF K E τ σ H [] [] []
  | old {r rs v vs fs} : Wait K E τ σ H r v → WaitsF K E τ σ H rs vs fs → WaitsF K E τ σ H (r :: rs) (v :: vs) fs
  | new {d p rs vs fs} : Own K (Av E τ σ) H p d → WaitsF K E τ σ H rs vs fs → WaitsF K E τ σ H (.nw d :: rs) (.ref p :: vs) (p :: fs)
inductive WaitsN (K : PySem.W.Frag) (E : AS) (τ : Tau) (σ : L2.St) (H : Hp) : List Rs → List V → List Addr → Prop
  | nil : WaitsN K E τ σ H [] [] []
  | old {d rs v vs fs} : Rp K (Av E τ σ) H v d → WaitsN K E τ σ H rs vs fs → WaitsN K E τ σ H (.v d :: rs) (v :: vs) fs
  | new {d p rs vs fs} : Own K (Av E τ σ) H p d → WaitsN K E τ σ H rs vs fs → WaitsN K E τ σ H (.nw d :: rs) (.ref p :: vs) (p :: fs)
structure PostF (K : PySem.W.Frag) (E : AS) (τ : Tau) (σ : L2.St) (H : Hp) (rs : List Rs) (τ' : Tau) (vs : List V) (H' : Hp) (fs : List Addr) : Prop where
  ext : Ext (Om τ σ) H H'
  dn : Dn τ τ'
  new : ∀ p ∈ fs, H p = none ∧ ¬ E p
  nd : fs.Nodup
  rep : SRep K (fun a => E a ∨ a ∈ fs) τ' σ H'
  res : WaitsF K (fun a => E a ∨ a ∈ fs) τ' σ H' rs vs fs
def fOf (K : PySem.W.Frag) (m : M (List Rs)) : TA := fun σ H Q => ∃ E τ rs τ', SRep K E τ σ H ∧ m τ = some (rs, τ') ∧ ∀ vs H' fs, PostF K E τ σ H rs τ' vs H' fs → Q vs H'
structure SF (X : Cx) (es : List Expr) (m : M (List Rs)) : Prop where
  pa : PA X es (fOf X.K m)
def mF0 : M (List Rs) := fun τ => some ([], τ)
def mF (ma : M Rs) (mr : M (List Rs)) : M (List Rs) := fun τ => (ma τ).bind fun p => (mr p.2).map fun q => (p.1 :: q.1, q.2)
section
variable {K : PySem.W.Frag} {E E' : AS} {τ τ' τ1 τ2 : Tau} {σ σ' : L2.St} {H H' H1 H2 : Hp} {v x y : V} {d e : Dt} {i : Nat} {r ra rb : Rs} {rs : List Rs} {vs : List V} {fs : List Addr} {p : Addr}
theorem Wait.to (w : Wait K E τ σ H r v) (e : Ext (Om τ σ) H H') (dn : Dn τ τ') (h : ∀ a, E' a → E a ∨ H a = none) : Wait K E' τ' σ H' r v := by
  cases r with
  | v d =>
    refine (Rp.mono (O' := fun a => Av E τ σ a ∨ E' a) w (e.wider fun a z => .inl (.inr (om_os z))).wk fun a z => ?_).mono (Ext.refl (O := Av E' τ' σ)).wk fun a z => .inl (z.elim .inr fun z => .inl (.inr (dn.os z)))
    exact z.elim .inl fun z => (h a z).elim (fun z => .inl (.inl z)) .inr
  | nw d => exact w
  | sl i => exact ⟨w.1, w.2.elim fun d q => dn.keeps i d q⟩
theorem Rp.to (w : Rp K (Av E τ σ) H v d) (e : Ext (Om τ σ) H H') (dn : Dn τ τ') (h : ∀ a, E' a → E a ∨ H a = none) : Rp K (Av E' τ' σ) H' v d := Wait.to (r := .v d) w e dn h
theorem WaitsF.to0 (w : WaitsF K E τ σ H rs vs fs) (dn : Dn τ τ') (h : ∀ a, E' a → E a) : WaitsF K E' τ' σ H rs vs fs := by
  induction w with
  | nil => exact .nil
  | old a _ ih => exact .old (a.to .refl dn fun a z => .inl (h a z)) ih
  | new a _ ih => exact .new (a.av fun a z => z.elim (fun z => .inl (h a z)) fun z => .inr (dn.os z)) ih
theorem Own.to {p : Addr} (w : Own K (Av E τ σ) H p d) (n : ¬ Om τ σ p) (e : Ext (Om τ σ) H H') (dn : Dn τ τ') (h : ∀ a, E' a → E a ∨ H a = none) : Own K (Av E' τ' σ) H' p d := by
  have w1 : Own K (fun a => Av E τ σ a ∨ E' a) H' p d := w.mono (e.wider fun a z => .inl (.inr (om_os z))).wk (fun a z => z.elim .inl fun z => (h a z).elim (fun z => .inl (.inl z)) .inr) (w.stay e n)
  exact w1.av fun a z => z.elim .inr fun z => .inl (.inr (dn.os z))
end
section
variable {X : Cx} {e : Expr} {es : List Expr} {me : M Rs} {m : M (List Rs)}
theorem sf_nil : SF X [] mF0 := by
  refine ⟨⟨fun pos pins s σ H Q I h => pa_nil.run pos pins s σ H Q I ?_⟩⟩
  obtain ⟨E, τ, rs, τ', S, hm, k⟩ := h
  cases hm
  exact k [] H [] ⟨.refl, .refl, fun _ z => absurd z (List.not_mem_nil), .nil, S.fewer fun a z => z.elim (fun z => z) fun z => absurd z (List.not_mem_nil), .nil⟩
theorem sf_cons (ha : SE X e me) (hr : SF X es m) (hs : starEach (e :: es) X.env = (false, eval e X.env) :: starEach es X.env := by rfl) : SF X (e :: es) (mF me m) := by
  refine ⟨⟨fun pos pins s σ H Q I h => (pa_cons ha.pe hr.pa hs).run pos pins s σ H Q I ?_⟩⟩
  obtain ⟨E, τ, rs, τ', S, hm, k⟩ := h
  simp only [mF, Option.bind_eq_some_iff, Option.map_eq_some_iff] at hm
  obtain ⟨⟨ra, τ1⟩, h1, ⟨rb, τ2⟩, h2, h3⟩ := hm
  cases h3
  refine ⟨E, τ, ra, τ1, S, h1, fun x H1 P1 => ?_⟩
  have old : ∀ (S1 : SRep X.K E τ1 σ H1), Wait X.K E τ1 σ H1 ra x → fOf X.K m σ H1 fun vs H2 => Q (x :: vs) H2 := fun S1 w => by
    refine ⟨E, τ1, rb, _, S1, h2, fun vs H2 fs P2 => k _ H2 fs ?_⟩
    exact ⟨P1.ext.trans P2.ext fun a q => .inl (P1.dn.om q), P1.dn.trans P2.dn, fun p q => ⟨none_back P1.ext (P2.new p q).1, (P2.new p q).2⟩, P2.nd, P2.rep, .old (w.to P2.ext P2.dn fun a z => z.elim .inl fun z => .inr (P2.new a z).1) P2.res⟩
  cases ra with
  | v d => exact old P1.res.1 P1.res.2
  | sl i => exact old P1.res.1 P1.res.2
  | nw d =>
    obtain ⟨p, rfl, n, nE, S1, w⟩ := P1.res
    refine ⟨_, τ1, rb, _, S1, h2, fun vs H2 fs P2 => k _ H2 (p :: fs) ?_⟩
    have hE : ∀ a, (E a ∨ a ∈ p :: fs) → (E a ∨ a = p) ∨ a ∈ fs := fun a z => z.elim (fun z => .inl (.inl z)) fun z => (List.mem_cons.mp z).elim (fun z => .inl (.inr z)) .inr
    refine ⟨P1.ext.trans P2.ext fun a q => .inl (P1.dn.om q), P1.dn.trans P2.dn, fun q hq => ?_, List.nodup_cons.mpr ⟨fun z => (P2.new p z).2 (.inr rfl), P2.nd⟩, P2.rep.fewer hE, .new ?_ (P2.res.to0 .refl hE)⟩
    · rcases List.mem_cons.mp hq with rfl | hq
      · exact ⟨n, nE⟩
      · exact ⟨none_back P1.ext (P2.new q hq).1, fun z => (P2.new q hq).2 (.inl z)⟩
    · exact w.to (fun z => (S1.os_at (om_os z)).2 (.inr rfl)) P2.ext P2.dn fun a z => z.elim (fun z => .inl (.inl z)) fun z => (List.mem_cons.mp z).elim (fun z => .inl (.inr z)) fun z => .inr (P2.new a z).1
end
def shareRs : List Rs → M (List Rs)
  | [], τ => some ([], τ)
  | .sl i :: rs, τ => (share (.sl i) τ).bind fun q => (shareRs rs q.2).map fun z => (.v q.1 :: z.1, z.2)
  | r :: rs, τ => (shareRs rs τ).map fun z => (r :: z.1, z.2)
def storeAll : List Nat → List Rs → Tau → Option Tau
  | [], [], τ => some τ
  | i :: is, .v d :: rs, τ => (setSl i (.sh d) τ).bind fun τ1 => storeAll is rs τ1
  | i :: is, .nw d :: rs, τ => (setSl i (.ow false d) τ).bind fun τ1 => storeAll is rs τ1
  | _, _, _ => none
def setAll : List Nat → List V → L2.St → L2.St
  | i :: is, v :: vs, σ => setAll is vs (σ.set i (some v))
  | _, _, σ => σ
def mPar (is : List Nat) (ma : M (List Rs)) : MS := fun τ => (ma τ).bind fun p => (shareRs p.1 p.2).bind fun q => (storeAll is q.1 q.2).map fun τ' => (.nx, τ')
section
variable {K : PySem.W.Frag} {E E' : AS} {τ τ' τ1 τ2 : Tau} {σ σ' : L2.St} {H H' H1 H2 : Hp} {v x y : V} {d e : Dt} {i : Nat} {r ra rb : Rs} {rs rs' : List Rs} {vs : List V} {fs : List Addr} {p : Addr}
theorem shareRs_ok (S : SRep K E τ σ H) (w : WaitsF K E τ σ H rs vs fs) (h : shareRs rs τ = some (rs', τ')) : Dn τ τ' ∧ SRep K E τ' σ H ∧ WaitsN K E τ' σ H rs' vs fs := by
  induction rs generalizing vs fs τ rs' with
  | nil => cases w; cases h; exact ⟨.refl, S, .nil⟩
  | cons r rs ih =>
    cases r with
    | v d =>
      simp only [shareRs, Option.map_eq_some_iff] at h
      obtain ⟨⟨rs2, τ2⟩, h1, h2⟩ := h
      cases h2
      cases w with
      | old a b =>
        obtain ⟨dn, S2, w2⟩ := ih S b h1
        exact ⟨dn, S2, .old (Rp.to a .refl dn fun _ z => .inl z) w2⟩
    | nw d =>
      simp only [shareRs, Option.map_eq_some_iff] at h
      obtain ⟨⟨rs2, τ2⟩, h1, h2⟩ := h
      cases h2
      cases w with
      | old a b => exact a.elim
      | new a b =>
        obtain ⟨dn, S2, w2⟩ := ih S b h1
        exact ⟨dn, S2, .new (a.av fun a z => z.elim .inl fun z => .inr (dn.os z)) w2⟩
    | sl i =>
      simp only [shareRs, share, Option.bind_eq_some_iff, Option.map_eq_some_iff] at h
      obtain ⟨⟨d, τ1⟩, ⟨d2, e1, τ3, e2, e3⟩, ⟨rs2, τ2⟩, h1, h2⟩ := h
      cases e3
      cases h2
      cases w with
      | old a b =>
        obtain ⟨S1, r1⟩ := S.unown e2 e1 a.1
        obtain ⟨dn, S2, w2⟩ := ih S1 (b.to0 (dn_unown e2) fun _ z => z) h1
        exact ⟨(dn_unown e2).trans dn, S2, .old (Rp.to r1 .refl dn fun _ z => .inl z) w2⟩
theorem WaitsN.to0 (w : WaitsN K E τ σ H rs vs fs) (h : ∀ a, Av E' τ' σ' a → Av E τ σ a ∨ H a = none) : WaitsN K E' τ' σ' H rs vs fs := by
  induction w with
  | nil => exact .nil
  | old a _ ih => exact .old (a.mono (Ext.refl (O := Av E' τ' σ')).wk h) ih
  | new a _ ih => exact .new (a.mono (Ext.refl (O := Av E' τ' σ')).wk h fun _ z => z) ih
theorem storeAll_ok {is : List Nat} (S : SRep K (fun a => E a ∨ a ∈ fs) τ σ H) (w : WaitsN K (fun a => E a ∨ a ∈ fs) τ σ H rs vs fs) (nd : fs.Nodup) (nE : ∀ p ∈ fs, ¬ E p) (h : storeAll is rs τ = some τ') :
    SRep K E τ' (setAll is vs σ) H ∧ (∀ b, Os τ' (setAll is vs σ) b → Os τ σ b ∨ b ∈ fs) ∧ (∀ b, Om τ' (setAll is vs σ) b → Om τ σ b ∨ b ∈ fs) ∧
    (∀ (k : Nat) d2, τ[k]? = some (.ow true d2) → τ'[k]? = some (.ow true d2) ∧ (setAll is vs σ)[k]? = σ[k]?) ∧ ∀ (k : Nat) io d2, τ[k]? = some (.lo io d2) → τ'[k]? = some (.lo io d2) ∧ (setAll is vs σ)[k]? = σ[k]? := by
  induction rs generalizing is vs fs τ σ with
  | nil =>
    cases w
    cases is with
    | nil => cases h; exact ⟨S.fewer fun _ => .inl, fun _ z => .inl z, fun _ z => .inl z, fun _ _ z => ⟨z, rfl⟩, fun _ _ _ z => ⟨z, rfl⟩⟩
    | cons i is => cases h
  | cons r rs ih =>
    cases is with
    | nil => cases r <;> cases h
    | cons i is =>
      cases r with
      | sl j => cases h
      | v d =>
        simp only [storeAll, Option.bind_eq_some_iff] at h
        obtain ⟨τ1, h1, h2⟩ := h
        cases w with
        | old a b =>
          obtain ⟨S1, P1⟩ := S.setSh h1 a
          have hh := setSl_at h1
          have w1 := b.to0 (E' := fun a => E a ∨ a ∈ fs) (τ' := τ1) (σ' := σ.set i (some _)) fun a q => q.elim (fun q => .inl (.inl q)) fun q => (P1.os a q).elim (fun q => .inl (.inr q)) .inr
          obtain ⟨S2, o2, m2, i2, l2⟩ := ih S1 w1 nd nE h2
          obtain ⟨rfl, hi, n1, n2⟩ := hh
          refine ⟨S2, fun b q => (o2 b q).elim (fun q => (P1.os b q).elim .inl fun n => ?_) .inr, fun b q => (m2 b q).elim (fun q => (P1.om b q).elim .inl fun n => ?_) .inr, fun k d2 q => ?_, fun k io d2 q => ?_⟩
          · exact absurd n (S1.os_at q).1
          · exact absurd n (S1.os_at (om_os q)).1
          · have hk : i ≠ k := fun z => n1 d2 (by rw [z]; exact q)
            obtain ⟨q1, q2⟩ := i2 k d2 (by rw [List.getElem?_set_ne hk]; exact q)
            exact ⟨q1, q2.trans (List.getElem?_set_ne hk)⟩
          · have hk : i ≠ k := fun z => n2 io d2 (by rw [z]; exact q)
            obtain ⟨q1, q2⟩ := l2 k io d2 (by rw [List.getElem?_set_ne hk]; exact q)
            exact ⟨q1, q2.trans (List.getElem?_set_ne hk)⟩
      | nw d =>
        simp only [storeAll, Option.bind_eq_some_iff] at h
        obtain ⟨τ1, h1, h2⟩ := h
        cases w with
        | @new _ p _ vs fs a b =>
          have hE : ∀ a, ((E a ∨ a ∈ fs) ∨ a = p) → E a ∨ a ∈ p :: fs := fun a z => z.elim (fun z => z.elim .inl fun z => .inr (List.mem_cons_of_mem _ z)) fun z => .inr (by rw [z]; exact List.mem_cons_self ..)
          have nd' := List.nodup_cons.mp nd
          obtain ⟨S1, o1, m1, i1, l1⟩ := (S.fewer hE).setOw h1 (a.av fun a z => z.elim (fun z => .inl (hE a z)) .inr) (fun z => z.elim (nE p (List.mem_cons_self ..)) nd'.1)
          have w1 := b.to0 (E' := fun a => E a ∨ a ∈ fs) (τ' := τ1) (σ' := σ.set i (some _)) fun a q => q.elim (fun q => .inl (.inl (hE a (.inl q)))) fun q => (o1 a q).elim (fun q => .inl (.inr q)) fun q => .inl (.inl (hE a (.inr q)))
          obtain ⟨S2, o2, m2, i2, l2⟩ := ih S1 w1 nd'.2 (fun q hq => nE q (List.mem_cons_of_mem _ hq)) h2
          refine ⟨S2, fun b q => (o2 b q).elim (fun q => (o1 b q).elim .inl fun n => .inr (by rw [n]; exact List.mem_cons_self ..)) fun q => .inr (List.mem_cons_of_mem _ q), fun b q => (m2 b q).elim (fun q => (m1 b q).elim .inl fun n => .inr (by rw [n]; exact List.mem_cons_self ..)) fun q => .inr (List.mem_cons_of_mem _ q), fun k d2 q => ?_, fun k io d2 q => ?_⟩
          · obtain ⟨q1, q2⟩ := i1 k d2 q
            obtain ⟨q3, q4⟩ := i2 k d2 q1
            exact ⟨q3, q4.trans q2⟩
          · obtain ⟨q1, q2⟩ := l1 k io d2 q
            obtain ⟨q3, q4⟩ := l2 k io d2 q1
            exact ⟨q3, q4.trans q2⟩
theorem WaitsN.len (w : WaitsN K E τ σ H rs vs fs) : vs.length = rs.length := by
  induction w with
  | nil => rfl
  | old _ _ ih => simp [ih]
  | new _ _ ih => simp [ih]
theorem store_len {is : List Nat} {rs : List Rs} {τ τ' : Tau} (h : storeAll is rs τ = some τ') : rs.length = is.length := by
  induction rs generalizing is τ with
  | nil =>
    cases is with
    | nil => rfl
    | cons => cases h
  | cons r rs ih =>
    cases is with
    | nil => cases r <;> cases h
    | cons i is =>
      cases r with
      | v d => simp only [storeAll, Option.bind_eq_some_iff] at h; obtain ⟨_, _, h⟩ := h; simp [ih h]
      | nw d => simp only [storeAll, Option.bind_eq_some_iff] at h; obtain ⟨_, _, h⟩ := h; simp [ih h]
      | sl d => cases h
theorem par_ok {is : List Nat} (P : PostF K E τ σ H rs τ1 vs H1 fs) (h : shareRs rs τ1 = some (rs', τ2)) (h2 : storeAll is rs' τ2 = some τ') : PostS τ σ H τ' (setAll is vs σ) H1 ∧ SRep K E τ' (setAll is vs σ) H1 := by
  obtain ⟨dn, S2, w2⟩ := shareRs_ok P.rep P.res h
  obtain ⟨S3, o, m, i, l⟩ := storeAll_ok S2 w2 P.nd (fun p q => (P.new p q).2) h2
  have dn2 := P.dn.trans dn
  have P0 : PostS τ σ H τ2 σ H1 := postS_dn P.ext dn2
  refine ⟨⟨P.ext, fun a q => (o a q).elim (fun q => .inl (dn2.os q)) fun q => .inr (P.new a q).1, fun a q => (m a q).elim (fun q => .inl (dn2.om q)) fun q => .inr (P.new a q).1, fun k d q => ?_, fun k io d q => ?_⟩, S3⟩
  · obtain ⟨⟨d', q1⟩, _⟩ := P0.io k d q
    obtain ⟨q3, q4⟩ := i k d' q1
    exact ⟨⟨d', q3⟩, q4⟩
  · obtain ⟨q1, _⟩ := P0.lo k io d q
    exact l k io d q1
end
section
variable {X : Cx} {a b c e tg : Expr} {ma : M (List Rs)} {me : M Rs} {is : List Nat} {bd : MB} {x y z : Str} {i j l : Nat} {px py pz pt pos : Pos} {kt k2 pt2}
theorem mPar_read2 {D : Ends} {σ : L2.St} {H : Hp} (h : sOf X.K (mPar [i, j] ma) D σ H) : tPar i j (fOf X.K ma) D σ H := by
  obtain ⟨E, τ, o, τ', S, hm, k⟩ := h
  simp only [mPar, Option.bind_eq_some_iff, Option.map_eq_some_iff] at hm
  obtain ⟨⟨rs, τ1⟩, h1, ⟨rs', τ2⟩, h2, τ3, h3, h4⟩ := hm
  cases h4
  refine ⟨E, τ, rs, τ1, S, h1, fun vs H1 fs P => ?_⟩
  obtain ⟨P2, S2⟩ := par_ok P h2 h3
  have hl : vs.length = 2 := ((shareRs_ok P.rep P.res h2).2.2.len).trans (store_len h3)
  match vs, hl, P2, S2 with
  | [v, w], _, P2, S2 => exact ⟨v, w, rfl, k _ H1 P2 S2⟩
theorem ss_par2 (hc : X.calm = true) (hN : X.N.Nodup) (hi : X.N[i]? = some x) (hj : X.N[j]? = some y) (ha : SF X [a, b] ma)
    (hw : swappedStores [.Tuple [.Name x px, .Name y py] kt pt] (.Tuple [a, b] k2 pt2) X.env = pure (some [x, y]))
    (hx : X.env.scope.names.lookup x = some .local) (hy : X.env.scope.names.lookup y = some .local)
    (hij : i ≠ j := by decide) (hs : swapsWithSole [.Tuple [.Name x px, .Name y py] kt pt] (.Tuple [a, b] k2 pt2) pos.line X.env = pure false := by rfl) :
    SS X (.Assign [.Tuple [.Name x px, .Name y py] kt pt] (.Tuple [a, b] k2 pt2) pos) (mPar [i, j] ma) :=
  ⟨psW (ps_par hc hN hi hj hij hx hy ha.pa hw hs) fun D σ H h => mPar_read2 h⟩
theorem mPar_read3 {D : Ends} {σ : L2.St} {H : Hp} (h : sOf X.K (mPar [i, j, l] ma) D σ H) : tPar3 i j l (fOf X.K ma) D σ H := by
  obtain ⟨E, τ, o, τ', S, hm, k⟩ := h
  simp only [mPar, Option.bind_eq_some_iff, Option.map_eq_some_iff] at hm
  obtain ⟨⟨rs, τ1⟩, h1, ⟨rs', τ2⟩, h2, τ3, h3, h4⟩ := hm
  cases h4
  refine ⟨E, τ, rs, τ1, S, h1, fun vs H1 fs P => ?_⟩
  obtain ⟨P2, S2⟩ := par_ok P h2 h3
  have hl : vs.length = rs'.length := (shareRs_ok P.rep P.res h2).2.2.len
  have hl3 : rs'.length = 3 := store_len h3
  rw [hl3] at hl
  match vs, hl, P2, S2 with
  | [u, v, w], _, P2, S2 => exact ⟨u, v, w, rfl, k _ H1 P2 S2⟩
theorem ss_par3 (hc : X.calm = true) (hN : X.N.Nodup) (hi : X.N[i]? = some x) (hj : X.N[j]? = some y) (hl : X.N[l]? = some z) (ha : SF X [a, b, c] ma)
    (hw : swappedStores [.Tuple [.Name x px, .Name y py, .Name z pz] kt pt] (.Tuple [a, b, c] k2 pt2) X.env = pure (some [x, y, z]))
    (hx : X.env.scope.names.lookup x = some .local) (hy : X.env.scope.names.lookup y = some .local) (hz : X.env.scope.names.lookup z = some .local)
    (hij : i ≠ j := by decide) (hil : i ≠ l := by decide) (hjl : j ≠ l := by decide) (hs : swapsWithSole [.Tuple [.Name x px, .Name y py, .Name z pz] kt pt] (.Tuple [a, b, c] k2 pt2) pos.line X.env = pure false := by rfl) :
    SS X (.Assign [.Tuple [.Name x px, .Name y py, .Name z pz] kt pt] (.Tuple [a, b, c] k2 pt2) pos) (mPar [i, j, l] ma) :=
  ⟨psW (ps_par3 hc hN hi hj hl hij hil hjl hx hy hz ha.pa hw hs) fun D σ H h => mPar_read3 h⟩
/-- a target takes a value -/
def mAsg (m : M Rs) (bd : MB) : MS := fun τ => (m τ).bind fun p => (share p.1 p.2).bind fun q => (bd q.1 q.2).map fun τ' => (.nx, τ')
theorem ss_asg (he : SE X e me) (hg : SG X tg is bd) (hs : swapsWithSole [tg] e pos.line X.env = pure false := by rfl) (hw : swappedStores [tg] e X.env = pure none := by rfl)
    (h1 : (assignEach [tg] X.env).map (·.2) = [assign tg X.env] := by rfl) : SS X (.Assign [tg] e pos) (mAsg me bd) := by
  refine ⟨psW (ps_asg he.pe hg.pg hs hw h1) fun D σ H h => ?_⟩
  obtain ⟨E, τ, o, τ', S, hm, k⟩ := h
  simp only [mAsg, Option.bind_eq_some_iff, Option.map_eq_some_iff] at hm
  obtain ⟨⟨r, τ1⟩, h1, ⟨d, τ2⟩, h2, τ3, h3, h4⟩ := hm
  cases h4
  refine ⟨E, τ, r, τ1, S, h1, fun v H1 P => ?_⟩
  have P2 := P.share h2
  exact ⟨E, τ2, d, _, P2.res.1, P2.res.2, h3, fun σ' P3 S3 _ => k σ' H1 (P2.b.s.comp P3) S3⟩
end
end Iv
set_option Elab.async false
set_option linter.all false
set_option maxRecDepth 100000
set_option maxHeartbeats 2000000
namespace Iv
open PySem L2 PyProof.Rows
variable [Cst]
/-! ### x[::-1] -/
section
variable {prog : Program} {w : World} {A : Around} {E : Value → Shared → Prop} {s : Shared}
theorem adjust_rev (n : Nat) : Builtin.Slice.sliceAdjust none none (-1) (n : Int) = ((n : Int) - 1, -1) := by
  unfold Builtin.Slice.sliceAdjust
  simp
theorem places_rev (n : Nat) : Builtin.Slice.slicePlaces ((n : Int) - 1) (-1) (-1) = n := by
  unfold Builtin.Slice.slicePlaces
  simp only [show ¬ ((-1 : Int) > 0) by decide, if_false]
  split
  · rw [show (- -1 : Int) = 1 by decide, Int.ediv_one]; omega
  · omega
theorem sliceApplied_rev {sl : Addr} {vs : Value} {n : Nat} {Q : Int × Int × Nat → Shared → Prop} (hs : s.heap.IsSliceOf sl .none .none vs) (ps : IsPart vs (some (-1)))
    (h : Q ((n : Int) - 1, -1, n) s) : wpAny (model prog w) A (Builtin.Slice.sliceApplied (.ref sl) (pure (n : Int))) Q E s := by
  obtain ⟨os, hos, hcs, hds⟩ := id hs
  unfold Builtin.Slice.sliceApplied Builtin.Slice.sliceFields
  refine wpAny_bind (wpAny_bind (wpAny_field hos hds (x := .none) rfl (wpAny_bind (wpAny_field hos hds (x := .none) rfl (wpAny_bind (wpAny_field hos hds (x := vs) rfl (wpAny_pure ?_)))))))
  refine wpAny_bind (HT.slicePart_ ps ?_)
  show wpAny _ _ (if ((-1 : Int) == 0) = true then _ else _) _ _ s
  rw [if_neg (by decide)]
  refine wpAny_bind (slicePart_none (wpAny_bind (slicePart_none (wpAny_bind (wpAny_pure ?_)))))
  show wpAny _ _ (match Builtin.Slice.sliceAdjust none none (-1) (n : Int) with | (lo, hi) => pure (lo, (-1 : Int), Builtin.Slice.slicePlaces lo hi (-1))) _ _ s
  rw [adjust_rev n]
  show wpAny _ _ (pure ((n : Int) - 1, (-1 : Int), Builtin.Slice.slicePlaces ((n : Int) - 1) (-1) (-1))) _ _ s
  rw [places_rev]
  exact wpAny_pure h
theorem fm_congr {α β : Type} {f g : α → Option β} : ∀ {l : List α}, (∀ a ∈ l, f a = g a) → l.filterMap f = l.filterMap g
  | [], _ => rfl
  | a :: l, h => by
    rw [List.filterMap_cons, List.filterMap_cons, h a (List.mem_cons_self ..), fm_congr fun b hb => h b (List.mem_cons_of_mem _ hb)]
theorem pick_rev (xs : Array Value) : ((List.range xs.size).filterMap fun (m : Nat) => xs[(((xs.size : Int) - 1) + (m : Int) * -1).toNat]?).toArray = xs.toList.reverse.toArray := by
  have e : ∀ k, k ∈ List.range xs.size → xs[(((xs.size : Int) - 1) + (k : Int) * -1).toNat]? = xs[xs.size - 1 - k]? := by
    intro k hk
    have := List.mem_range.mp hk
    have : (((xs.size : Int) - 1) + (k : Int) * -1).toNat = xs.size - 1 - k := by omega
    rw [this]
  rw [fm_congr e]
  have h := PySem.W.krv_all xs
  rw [← h, ← List.filterMap_reverse, ← PySem.W.krv_range, List.filterMap_map]
  rfl
theorem getItem_tuple_rev {t sl : Addr} {items : Array Value} {vs : Value} {Q : Value → Shared → Prop} (ht : IsTup s.heap t items) (hs : s.heap.IsSliceOf sl .none .none vs) (ps : IsPart vs (some (-1)))
    (h : Q (.ref s.heap.objs.size) { s with heap := s.heap.push { cls := .type "tuple", data := .seq items.toList.reverse.toArray } })
    (hsz : items.size ≤ sizeLine) : wpAny (model prog w) A (getItem (.ref t) (.ref sl)) Q E s := by
  have htake : sizeOk (.seq items.toList.reverse.toArray) := by
    show items.toList.reverse.toArray.size ≤ sizeLine
    rw [List.size_toArray, List.length_reverse, Array.length_toList]
    omega
  obtain ⟨os, hos, hcs, hds⟩ := id hs
  have hTs : s.TypeIs (.ref sl) "slice" := ⟨os, hos, hcs⟩
  unfold getItem
  try with_reducible refine wpAny_holding ?_
  first | refine wpAny_bind (wpAny_pure ?_) | skip
  refine wpAny_bind (wpAny_sequenceKey ht.typeIs (by decide) ?_)
  refine wpAny_bind (wpAny_callSpecial?_slot (name := Str.ofString "__getitem__") ht.typeIs PyProof.Rows.slot_tuple_getitem
    (wpAny_call_entry PyProof.Rows.slot_tuple_getitem ht.typeIs entry_tuple_getitem ?_ (args_tuple_getitem _ _)))
  show wpAny _ _ (Builtin.Tuple.tupleItemsOf (.ref t) >>= _) _ _ s
  refine wpAny_bind (tupleItemsOf_ ht ?_)
  refine wpAny_bind (wpAny_typeOf hTs ?_)
  rw [if_pos (by decide)]
  refine wpAny_bind (sliceApplied_rev hs ps ?_)
  have hno : ¬ ((((items.size : Int) - 1) == 0 && (-1 : Int) == 1 && items.size == items.size) = true) := by simp
  show wpAny _ _ (if (((items.size : Int) - 1) == 0 && (-1 : Int) == 1 && items.size == items.size) = true then _ else _) _ _ s
  rw [if_neg hno, pick_rev]
  first
    | exact wpAny_bind (m := Builtin.Tuple.tupleExact _) (wpAny_newObj_type (wpAny_pure ⟨_, rfl, wpAny_pure h⟩) htake)
    | exact wpAny_bind (m := Builtin.Tuple.tupleExact _) (wpAny_newObj_type (wpAny_bind (wpAny_pure (wpAny_pure ⟨_, rfl, wpAny_pure h⟩))) htake)
    | exact wpAny_bind (wpAny_bind (m := Builtin.Tuple.tupleExact _) (wpAny_newObj_type (wpAny_pure (wpAny_pure ⟨_, rfl, wpAny_pure h⟩)) htake))
    | exact wpAny_bind (wpAny_bind (m := Builtin.Tuple.tupleExact _) (wpAny_newObj_type (wpAny_pure ⟨_, rfl, wpAny_pure h⟩) htake))
end
def dRev : Dt → Option Rs
  | .list xs => some (.nw (.list xs.reverse))
  | .tuple xs => some (.v (.tuple xs.reverse))
  | _ => none
section
variable {X : Cx}
def tRevA (K : PySem.W.Frag) (te : TE) : TE := fun σ H Q => te σ H fun x H1 => (∃ a xs, x = .ref a ∧ SqL K H1 a xs ∧ ∀ p, H1 p = none → Q (.ref p) (upd H1 p (.lst xs.reverse))) ∨ (∃ a xs, x = .ref a ∧ SqT K H1 a xs ∧ ∀ p, H1 p = none → Q (.ref p) (upd H1 p (.tup xs.reverse)))
theorem pe_revA {e : Expr} {te : TE} {k : Nat} {p1 p2 p3 pos : Pos} (he : PE X e te) : PE X (.Subscript e (.Slice none none (some (.UnaryOp .USub (.Constant (.int 1) k p1) p2)) p3) pos) (tRevA X.K te) := by
  refine ⟨fun pins s σ H Q I h => ?_⟩
  refine Subscript_ (thn (he.run pins s σ H _ I h) fun v s1 ⟨x, H1, I1, r1, q1⟩ => ?_)
  have hst : PO X (some (.UnaryOp .USub (.Constant (.int 1) k p1) p2)) (tPart (tUn (rU fun i => .int (-i)) (tC (.int 1)))) := po_some (pe_un un_neg pe_int)
  refine wpAny_Slice (thn (po_none.run pins s1 σ H1 (fun o H2 => o = none ∧ H2 = H1) I1 ⟨rfl, rfl⟩) fun vl s2 ⟨l, H2, I2, pl, el, e2⟩ => ?_)
  subst el e2
  refine thn (po_none.run pins s2 σ H2 (fun o H3 => o = none ∧ H3 = H2) I2 ⟨rfl, rfl⟩) fun vu s3 ⟨u, H3, I3, pu, eu, e3⟩ => ?_
  subst eu e3
  refine thn (hst.run pins s3 σ H3 (fun o H4 => o = some (-1) ∧ H4 = H3) I3 ⟨1, rfl, -1, rfl, rfl, rfl⟩) fun vs s4 ⟨o, H4, I4, ps, eo, e4⟩ => ?_
  subst eo e4
  cases pl
  cases pu
  have I5 : Inv X pins σ H4 { s4 with heap := s4.heap.push { cls := .type "slice", data := .fields #[.none, .none, vs] } } := I4.kept (t' := s4.toks) fun b ob q => Heap.get?_push_of_some _ q
  rcases q1 with ⟨a, xs, ex, hx, q⟩ | ⟨a, xs, ex, hx, q⟩
  · subst ex
    cases r1
    obtain ⟨its, r, ht, hz⟩ := I5.list hx
    have hlen := r.length
    show wpAny (model X.prog X.w) X.A (subscriptTail e (.Slice none none (some (.UnaryOp .USub (.Constant (.int 1) k p1) p2)) p3) (.ref a) (.ref s4.heap.objs.size)) (EP X pins σ Q) X.xe { s4 with heap := s4.heap.push { cls := .type "slice", data := .fields #[.none, .none, vs] } }
    refine tail_any (ops := [.ref a, .ref s4.heap.objs.size]) ht.isList.typeIs (PySem.slot_list_getitem.lookup) ?_ (by with_unfolding_all rfl)
    refine wpAny_getItem_list_slice ht.isList (Heap.IsSliceOf.new _ .none .none vs) .none .none ps (by decide) ?_ (by rw [List.size_toArray]; omega)
    rw [PySem.W.krv_pick]
    refine ⟨.ref _, _, I5.laid (t' := s4.toks) (o := .lst xs.reverse) (fun b ob q => Heap.get?_push_of_some _ q) (Nat.le_refl _) ?_, rfl, q _ (I5.hok.fresh (Nat.le_refl _))⟩
    exact ⟨by rw [List.length_reverse]; exact hz, _, 0, r.reverse, Heap.get?_push_size _ rfl⟩
  · subst ex
    cases r1
    obtain ⟨its, r, ht, hz⟩ := I5.tuple hx
    have hlen := r.length
    show wpAny (model X.prog X.w) X.A (subscriptTail e (.Slice none none (some (.UnaryOp .USub (.Constant (.int 1) k p1) p2)) p3) (.ref a) (.ref s4.heap.objs.size)) (EP X pins σ Q) X.xe { s4 with heap := s4.heap.push { cls := .type "slice", data := .fields #[.none, .none, vs] } }
    refine tail_any (ops := [.ref a, .ref s4.heap.objs.size]) ht.typeIs (PyProof.Rows.slot_tuple_getitem.lookup) ?_ (by with_unfolding_all rfl)
    refine getItem_tuple_rev ht (Heap.IsSliceOf.new _ .none .none vs) ps ?_ (by rw [List.size_toArray]; omega)
    refine ⟨.ref _, _, I5.laid (t' := s4.toks) (o := .tup xs.reverse) (fun b ob q => Heap.get?_push_of_some _ q) (Nat.le_refl _) ?_, rfl, q _ (I5.hok.fresh (Nat.le_refl _))⟩
    exact ⟨by rw [List.length_reverse]; exact hz, _, r.reverse, ⟨_, Heap.get?_push_size _ rfl, rfl, 0, rfl⟩⟩
theorem se_rev {e : Expr} {ma : M Rs} {k : Nat} {p1 p2 p3 pos : Pos} (he : SE X e ma) : SE X (.Subscript e (.Slice none none (some (.UnaryOp .USub (.Constant (.int 1) k p1) p2)) p3) pos) (mUn dRev ma) := by
  refine ⟨peW (pe_revA he.pe) fun σ H Q h => ?_⟩
  obtain ⟨E, τ, r, τ', S, hm, k⟩ := h
  simp only [mUn, Option.bind_eq_some_iff, Option.map_eq_some_iff] at hm
  obtain ⟨⟨ra, τ1⟩, h1, d, h3, z, h5, h6⟩ := hm
  cases h6
  refine ⟨E, τ, ra, _, S, h1, fun x H1 P1 => ?_⟩
  have w := P1.read h3
  unfold dRev at h5
  split at h5
  · cases h5
    obtain ⟨a, xs, rfl, hs, hr⟩ := rt_list w
    exact .inl ⟨a, xs, rfl, hs, fun p hp => k _ _ (P1.comp (post_step P1.srep (.new hp) (res_list hr.reverse hp)))⟩
  · cases h5
    obtain ⟨a, xs, rfl, hs, hr⟩ := rt_tuple w
    exact .inr ⟨a, xs, rfl, hs, fun p hp => k _ _ (P1.comp (post_step P1.srep (.new hp) (res_tup hr.reverse hp)))⟩
  · cases h5
end
end Iv
set_option Elab.async false
set_option linter.all false
set_option maxRecDepth 100000
set_option maxHeartbeats 2000000
namespace Iv
open PySem L2 PySem.Spec PyProof.Rows
variable [Cst]
/-! ### x.count(y), x.index(y) -/
def fCntL : Dt → List Dt → Option Rs
  | .list ds, [d] => if SeqAt.shaped d = true ∧ SeqAt.shaped (.list ds) = true then some (.v (.int (ds.countP fun z => PyData.eqv z d : Nat))) else none
  | _, _ => none
def fCntT : Dt → List Dt → Option Rs
  | .tuple ds, [d] => if SeqAt.shaped d = true ∧ SeqAt.shaped (.tuple ds) = true then some (.v (.int (ds.countP fun z => PyData.eqv z d : Nat))) else none
  | _, _ => none
def fFndL : Dt → List Dt → Option Rs
  | .list ds, [d] => if SeqAt.shaped d = true ∧ SeqAt.shaped (.list ds) = true then (ds.findIdx? fun z => PyData.eqv z d).map fun (j : Nat) => .v (.int j) else none
  | _, _ => none
def fFndT : Dt → List Dt → Option Rs
  | .tuple ds, [d] => if SeqAt.shaped d = true ∧ SeqAt.shaped (.tuple ds) = true then (ds.findIdx? fun z => PyData.eqv z d).map fun (j : Nat) => .v (.int j) else none
  | _, _ => none
section
variable {X : Cx} {pins : List (Addr × Obj)} {σ : L2.St} {H : Hp} {s : Shared} {O : AS} {v : V} {ds : List Dt}
theorem list_reads (I : Inv X pins σ H s) (h : Rt X.K O H v (.list ds)) (c : SeqAt.shaped (.list ds) = true) : ∃ a its n dd sl as, v = .ref a ∧ s.heap.get? a = some { cls := .type "list", dict := dd, data := .seq (List.toArray its) n, slots := sl } ∧
    ReadsAll s.heap its ds as ∧ its.map (SeqAt.readOf s.heap) = ds ∧ its.length ≤ sizeLine := by
  have c0 := SeqAt.canLay_of_shaped c
  have hp := rt_dp h c0
  cases hp with
  | lst hs ha =>
    obtain ⟨its, rv, ⟨⟨cls, dd, data, sls⟩, n, ho, hc, hdn, hdt⟩, hlen⟩ := I.list hs
    simp only at hc hdt
    subst hc hdt
    obtain ⟨as, h4⟩ := Dp.readsAll I ds _ its ha rv
    exact ⟨_, its, n, dd, sls, as, rfl, ho, h4, SeqAt.readsAll_map ds its as (by simpa [PyData.canLay0] using c0) h4, by rw [← rv.length]; exact hlen⟩
theorem tuple_reads (I : Inv X pins σ H s) (h : Rt X.K O H v (.tuple ds)) (c : SeqAt.shaped (.tuple ds) = true) : ∃ a its n dd sl as, v = .ref a ∧ s.heap.get? a = some { cls := .type "tuple", dict := dd, data := .seq (List.toArray its) n, slots := sl } ∧
    ReadsAll s.heap its ds as ∧ its.map (SeqAt.readOf s.heap) = ds ∧ its.length ≤ sizeLine := by
  have c0 := SeqAt.canLay_of_shaped c
  have hp := rt_dp h c0
  cases hp with
  | tup hs ha =>
    obtain ⟨its, rv, ⟨⟨cls, dd, data, sls⟩, ho, hc, n, hdt⟩, hlen⟩ := I.tuple hs
    simp only at hc hdt
    subst hc hdt
    obtain ⟨as, h4⟩ := Dp.readsAll I ds _ its ha rv
    exact ⟨_, its, n, dd, sls, as, rfl, ho, h4, SeqAt.readsAll_map ds its as (by simpa [PyData.canLay0] using c0) h4, by rw [← rv.length]; exact hlen⟩
theorem countP_read {h : Heap} {its : List Value} {ds : List Dt} {d : Dt} (e : its.map (SeqAt.readOf h) = ds) : its.toArray.toList.countP (fun u => PyData.eqv (SeqAt.readOf h u) d) = ds.countP fun z => PyData.eqv z d := by
  rw [← e, List.countP_map]
  rfl
theorem canAll_of {ds : List Dt} (c : SeqAt.shaped (.list ds) = true) : PyData.canLayAll0 ds = true := by simpa [PyData.canLay0] using SeqAt.canLay_of_shaped c
theorem canAll_ofT {ds : List Dt} (c : SeqAt.shaped (.tuple ds) = true) : PyData.canLayAll0 ds = true := by simpa [PyData.canLay0] using SeqAt.canLay_of_shaped c
theorem mv_cntL (hu : X.A.units + 65 < cLine) : MtR X "list.count" (rMeth X.K fCntL) := by
  intro pins s σ H x xs v us Q I rx rs h
  obtain ⟨O, d, es, z, hO, hd, ha, hz, q⟩ := h
  unfold fCntL at hz
  split at hz
  · split at hz
    · rename_i hs
      cases hz
      obtain ⟨y, rfl, ry⟩ := ha.one
      obtain ⟨u, rfl, ru⟩ := rs.one
      obtain ⟨bs, r1⟩ := Dp.reads I _ y u (rt_dp ry (SeqAt.canLay_of_shaped hs.1)) ru
      obtain ⟨a, its, n, dd, sl, as, rfl, ho, h4, hm, hl⟩ := list_reads I hd hs.2
      cases rx
      refine call_meets PySem.F.slot_list_count ⟨_, ho, rfl⟩ PySem.F.entry_list_count (PySem.F.args_list_count_2 _ _)
        (SeqAt.list_countAt a its.toArray n dd sl u fun w => PyData.eqv (SeqAt.readOf s.heap w) _) ⟨ho, SeqAt.items_eqAt (vs := its.toArray) (show ReadsAll s.heap its.toArray.toList _ as from h4) r1 (canAll_of hs.2) (SeqAt.canLay_of_shaped hs.1) (room_in_shapedT hs.1 hu), ?_⟩
      rw [countP_read hm]
      exact ⟨.int _, H, I.tok _, ⟨_, rfl⟩, q _ H .refl (.int _)⟩
    · cases hz
  · cases hz
theorem mv_cntT (hu : X.A.units + 65 < cLine) : MtR X "tuple.count" (rMeth X.K fCntT) := by
  intro pins s σ H x xs v us Q I rx rs h
  obtain ⟨O, d, es, z, hO, hd, ha, hz, q⟩ := h
  unfold fCntT at hz
  split at hz
  · split at hz
    · rename_i hs
      cases hz
      obtain ⟨y, rfl, ry⟩ := ha.one
      obtain ⟨u, rfl, ru⟩ := rs.one
      obtain ⟨bs, r1⟩ := Dp.reads I _ y u (rt_dp ry (SeqAt.canLay_of_shaped hs.1)) ru
      obtain ⟨a, its, n, dd, sl, as, rfl, ho, h4, hm, hl⟩ := tuple_reads I hd hs.2
      cases rx
      refine call_meets PySem.F.slot_tuple_count ⟨_, ho, rfl⟩ PySem.F.entry_tuple_count (PySem.F.args_tuple_count_2 _ _)
        (SeqAt.tuple_countAt a its.toArray n dd sl u fun w => PyData.eqv (SeqAt.readOf s.heap w) _) ⟨ho, SeqAt.items_eqAt (vs := its.toArray) (show ReadsAll s.heap its.toArray.toList _ as from h4) r1 (canAll_ofT hs.2) (SeqAt.canLay_of_shaped hs.1) (room_in_shapedT hs.1 hu), ?_⟩
      rw [countP_read hm]
      exact ⟨.int _, H, I.tok _, ⟨_, rfl⟩, q _ H .refl (.int _)⟩
    · cases hz
  · cases hz
theorem find_read {h : Heap} {its : List Value} {ds : List Dt} {d : Dt} {j : Nat} (e : its.map (SeqAt.readOf h) = ds) (hj : (ds.findIdx? fun z => PyData.eqv z d) = some j) :
    ∃ hl : j < its.toArray.size, PyData.eqv (SeqAt.readOf h its.toArray[j]) d = true ∧ ∀ m (hm : m < its.toArray.size), m < j → PyData.eqv (SeqAt.readOf h its.toArray[m]) d = false := by
  subst e
  obtain ⟨h1, h2, h3⟩ := List.findIdx?_eq_some_iff_getElem.mp hj
  have hl : j < its.toArray.size := by simpa using h1
  refine ⟨hl, by simpa using h2, fun m hm hmj => ?_⟩
  have := h3 m hmj
  simpa using this
theorem mv_fndL (hu : X.A.units + 65 < cLine) : MtR X "list.index" (rMeth X.K fFndL) := by
  intro pins s σ H x xs v us Q I rx rs h
  obtain ⟨O, d, es, z, hO, hd, ha, hz, q⟩ := h
  unfold fFndL at hz
  split at hz
  · split at hz
    · rename_i hs
      simp only [Option.map_eq_some_iff] at hz
      obtain ⟨j, hj, rfl⟩ := hz
      obtain ⟨y, rfl, ry⟩ := ha.one
      obtain ⟨u, rfl, ru⟩ := rs.one
      obtain ⟨bs, r1⟩ := Dp.reads I _ y u (rt_dp ry (SeqAt.canLay_of_shaped hs.1)) ru
      obtain ⟨a, its, n, dd, sl, as, rfl, ho, h4, hm, hl⟩ := list_reads I hd hs.2
      cases rx
      obtain ⟨h5, h6, h7⟩ := find_read hm hj
      have hsl := sizeLine_eq
      have h8 : j < its.length := by simpa using h5
      exact call_meets PySem.F.slot_list_index ⟨_, ho, rfl⟩ PySem.F.entry_list_index (PySem.F.args_list_index_2 _ _)
        (SeqAt.list_indexAt a its.toArray n dd sl u (fun w => PyData.eqv (SeqAt.readOf s.heap w) _) j h5 (by omega) h6 h7) ⟨ho, SeqAt.items_eqAt (vs := its.toArray) (show ReadsAll s.heap its.toArray.toList _ as from h4) r1 (canAll_of hs.2) (SeqAt.canLay_of_shaped hs.1) (room_in_shapedT hs.1 hu),
          ⟨.int _, H, I.tok _, ⟨_, rfl⟩, q _ H .refl (.int _)⟩⟩
    · cases hz
  · cases hz
theorem mv_fndT (hu : X.A.units + 65 < cLine) : MtR X "tuple.index" (rMeth X.K fFndT) := by
  intro pins s σ H x xs v us Q I rx rs h
  obtain ⟨O, d, es, z, hO, hd, ha, hz, q⟩ := h
  unfold fFndT at hz
  split at hz
  · split at hz
    · rename_i hs
      simp only [Option.map_eq_some_iff] at hz
      obtain ⟨j, hj, rfl⟩ := hz
      obtain ⟨y, rfl, ry⟩ := ha.one
      obtain ⟨u, rfl, ru⟩ := rs.one
      obtain ⟨bs, r1⟩ := Dp.reads I _ y u (rt_dp ry (SeqAt.canLay_of_shaped hs.1)) ru
      obtain ⟨a, its, n, dd, sl, as, rfl, ho, h4, hm, hl⟩ := tuple_reads I hd hs.2
      cases rx
      obtain ⟨h5, h6, h7⟩ := find_read hm hj
      exact call_meets PySem.F.slot_tuple_index ⟨_, ho, rfl⟩ PySem.F.entry_tuple_index (PySem.F.args_tuple_index_2 _ _)
        (TI.tuple_indexAt a its.toArray n dd sl u (fun w => PyData.eqv (SeqAt.readOf s.heap w) _) j h5 h6 h7) ⟨ho, SeqAt.items_eqAt (vs := its.toArray) (show ReadsAll s.heap its.toArray.toList _ as from h4) r1 (canAll_ofT hs.2) (SeqAt.canLay_of_shaped hs.1) (room_in_shapedT hs.1 hu),
          ⟨.int _, H, I.tok _, ⟨_, rfl⟩, q _ H .refl (.int _)⟩⟩
    · cases hz
  · cases hz
end
/-- the one or the other -/
def mElse (a b : M Rs) : M Rs := fun τ => match a τ with
  | some r => some r
  | none => b τ
theorem se_else {X : Cx} {e : Expr} {a b : M Rs} (ha : SE X e a) (hb : SE X e b) : SE X e (mElse a b) := by
  refine ⟨⟨fun pins s σ H Q I h => ?_⟩⟩
  obtain ⟨E, τ, r, τ', S, hm, k⟩ := h
  unfold mElse at hm
  split at hm
  · rename_i z
    cases hm
    exact ha.pe.run pins s σ H Q I ⟨E, τ, r, τ', S, z, k⟩
  · exact hb.pe.run pins s σ H Q I ⟨E, τ, r, τ', S, hm, k⟩
end Iv
set_option Elab.async false
set_option linter.all false
set_option maxRecDepth 100000
set_option maxHeartbeats 2000000
namespace Iv
open PySem L2 PyProof.Rows
variable [Cst]
/-! ### reckoning with the newer terms -/
section
variable (τ τ1 : Tau) (i j n : Nat) (m ma mb mc me : M Rs) (es : M (List Rs)) (bd : MB) (d e : Dt) (r r2 : Rs) (rs : List Rs) (is : List Nat)
def kF1p (es : M (List Rs)) : OR → OA
  | some (r, τ) => (es τ).map fun q => (r :: q.1, q.2)
  | none => none
@[simp] theorem e_F0 : mF0 τ = some ([], τ) := (rfl)
@[simp] theorem e_F : mF ma es τ = kF1p es (ma τ) := by unfold mF; cases ma τ <;> rfl
@[simp] theorem kF1p_s : kF1p es (some (r, τ)) = kA2 r (es τ) := by show (es τ).map _ = _; cases es τ <;> rfl
def kP1p (is : List Nat) : OA → OS
  | some (rs, τ) => (shareRs rs τ).bind fun q => (storeAll is q.1 q.2).map fun τ' => (.nx, τ')
  | none => none
def kP2p (is : List Nat) : OA → OS
  | some (rs, τ) => (storeAll is rs τ).map fun τ' => (.nx, τ')
  | none => none
@[simp] theorem e_par : mPar is es τ = kP1p is (es τ) := by unfold mPar; cases es τ <;> rfl
@[simp] theorem kP1p_s : kP1p is (some (rs, τ)) = kP2p is (shareRs rs τ) := by show (shareRs rs τ).bind _ = _; cases shareRs rs τ <;> rfl
@[simp] theorem kP2p_s : kP2p is (some (rs, τ)) = kNx (storeAll is rs τ) := by show (storeAll is rs τ).map _ = _; cases storeAll is rs τ <;> rfl
@[simp] theorem shR_0 : shareRs [] τ = some ([], τ) := (rfl)
@[simp] theorem shR_v : shareRs (.v d :: rs) τ = kA2 (.v d) (shareRs rs τ) := by show (shareRs rs τ).map _ = _; cases shareRs rs τ <;> rfl
@[simp] theorem shR_n : shareRs (.nw d :: rs) τ = kA2 (.nw d) (shareRs rs τ) := by show (shareRs rs τ).map _ = _; cases shareRs rs τ <;> rfl
def kSh1p (rs : List Rs) : Option (Dt × Tau) → OA
  | some (d, τ) => kA2 (.v d) (shareRs rs τ)
  | none => none
@[simp] theorem shR_s : shareRs (.sl i :: rs) τ = kSh1p rs (share (.sl i) τ) := by
  show (share (.sl i) τ).bind _ = _
  cases share (.sl i) τ with
  | none => rfl
  | some q => obtain ⟨d, τ2⟩ := q; show (shareRs rs τ2).map _ = kA2 _ (shareRs rs τ2); cases shareRs rs τ2 <;> rfl
@[simp] theorem kSh1p_s : kSh1p rs (some (d, τ)) = kA2 (.v d) (shareRs rs τ) := (rfl)
def kStp (is : List Nat) (rs : List Rs) : Option Tau → Option Tau
  | some τ => storeAll is rs τ
  | none => none
@[simp] theorem kStp_s : kStp is rs (some τ) = storeAll is rs τ := (rfl)
@[simp] theorem stA_0 : storeAll [] [] τ = some τ := (rfl)
@[simp] theorem stA_v : storeAll (i :: is) (.v d :: rs) τ = kStp is rs (setSl i (.sh d) τ) := by show (setSl i (.sh d) τ).bind _ = _; cases setSl i (.sh d) τ <;> rfl
@[simp] theorem stA_n : storeAll (i :: is) (.nw d :: rs) τ = kStp is rs (setSl i (.ow false d) τ) := by show (setSl i (.ow false d) τ).bind _ = _; cases setSl i (.ow false d) τ <;> rfl
def kG1p (bd : MB) : OR → OS
  | some (r, τ) => (share r τ).bind fun q => (bd q.1 q.2).map fun τ' => (.nx, τ')
  | none => none
def kG2p (bd : MB) : Option (Dt × Tau) → OS
  | some (d, τ) => kNx (bd d τ)
  | none => none
@[simp] theorem e_asg : mAsg m bd τ = kG1p bd (m τ) := by unfold mAsg; cases m τ <;> rfl
@[simp] theorem kG1p_s : kG1p bd (some (r, τ)) = kG2p bd (share r τ) := by
  show (share r τ).bind _ = _
  cases share r τ with
  | none => rfl
  | some q => obtain ⟨d, τ2⟩ := q; show (bd d τ2).map _ = kNx (bd d τ2); cases bd d τ2 <;> rfl
@[simp] theorem kG2p_s : kG2p bd (some (d, τ)) = kNx (bd d τ) := (rfl)
@[simp] theorem dRev_l (xs : List Dt) : dRev (.list xs) = some (.nw (.list xs.reverse)) := (rfl)
@[simp] theorem dRev_t (xs : List Dt) : dRev (.tuple xs) = some (.v (.tuple xs.reverse)) := (rfl)
end
end Iv
set_option Elab.async false
set_option linter.all false
set_option maxRecDepth 100000
set_option maxHeartbeats 2000000
namespace Iv
open PySem L2 PyProof.Rows
variable [Cst]
/-! ### counting and finding in lists of ints, of bools -/
theorem canAll_map {α : Type} {f : α → Dt} (h : ∀ x, (f x).canLay0 = true) : ∀ l : List α, PyData.canLayAll0 (l.map f) = true
  | [] => by simp [PyData.canLayAll0]
  | x :: l => by rw [List.map_cons]; simp [PyData.canLayAll0, h x, canAll_map h l]
theorem depthAll_map {α : Type} {f : α → Dt} {k : Nat} (h : ∀ x, (f x).depth ≤ k) : ∀ l : List α, PyData.depthAll (l.map f) ≤ k
  | [] => by simp [PyData.depthAll]
  | x :: l => by rw [List.map_cons]; rw [PyData.depthAll]; exact Nat.max_le.mpr ⟨h x, depthAll_map h l⟩
theorem shaped_map {α : Type} {f : α → Dt} {k : Nat} (h : ∀ x, (f x).canLay0 = true) (h2 : ∀ x, (f x).depth ≤ k) (hk : k < 60) (l : List α) : SeqAt.shaped (.list (l.map f)) = true ∧ SeqAt.shaped (.tuple (l.map f)) = true := by
  have h3 := depthAll_map h2 l
  have c := canAll_map h l
  refine ⟨?_, ?_⟩
  · refine Bool.and_eq_true_iff.mpr ⟨by rw [PyData.canLay0]; exact c, decide_eq_true ?_⟩
    rw [PyData.depth]
    omega
  · refine Bool.and_eq_true_iff.mpr ⟨by rw [PyData.canLay0]; exact c, decide_eq_true ?_⟩
    rw [PyData.depth]
    omega
theorem shaped_ints (l : List Int) : SeqAt.shaped (.list (l.map .int)) = true ∧ SeqAt.shaped (.tuple (l.map .int)) = true := shaped_map (k := 0) (fun x => by simp [PyData.canLay0]) (fun x => by simp [PyData.depth]) (by decide) l
theorem shaped_bools (l : List Bool) : SeqAt.shaped (.list (l.map .bool)) = true ∧ SeqAt.shaped (.tuple (l.map .bool)) = true := shaped_map (k := 0) (fun x => by simp [PyData.canLay0]) (fun x => by simp [PyData.depth]) (by decide) l
theorem shaped_bool (b : Bool) : SeqAt.shaped (.bool b) = true := by simp [SeqAt.shaped, PyData.canLay0, PyData.depth]
theorem eqv_ii (i j : Int) : PyData.eqv (.int i) (.int j) = (i == j) := by simp [PyData.eqv]
theorem eqv_bb (i j : Bool) : PyData.eqv (.bool i) (.bool j) = (i == j) := by cases i <;> cases j <;> simp [PyData.eqv]
@[simp] theorem v_cnt (l : List Int) (k : Int) : fCntL (.list (l.map .int)) [.int k] = some (.v (.int (l.count k : Nat))) := by
  show (if _ then _ else _) = _
  rw [if_pos ⟨shaped_int k, (shaped_ints l).1⟩, List.countP_map]
  have : ((fun z => PyData.eqv z (.int k)) ∘ PyData.int) = fun i => i == k := funext fun i => eqv_ii i k
  rw [this]
  rfl
@[simp] theorem v_fnd (l : List Int) (k : Int) : fFndL (.list (l.map .int)) [.int k] = (l.findIdx? (· == k)).map fun (j : Nat) => .v (.int j) := by
  show (if _ then _ else _) = _
  rw [if_pos ⟨shaped_int k, (shaped_ints l).1⟩, List.findIdx?_map]
  have : ((fun z => PyData.eqv z (.int k)) ∘ PyData.int) = fun i => i == k := funext fun i => eqv_ii i k
  rw [this]
theorem any_ints (l : List Int) (k : Int) : ((l.map PyData.int).any fun z => PyData.eqv z (.int k)) = l.any (· == k) := by
  rw [List.any_map]
  have : ((fun z => PyData.eqv z (.int k)) ∘ PyData.int) = fun i => i == k := funext fun i => eqv_ii i k
  rw [this]
theorem any_bools (l : List Bool) (k : Bool) : ((l.map PyData.bool).any fun z => PyData.eqv z (.bool k)) = l.any (· == k) := by
  rw [List.any_map]
  have : ((fun z => PyData.eqv z (.bool k)) ∘ PyData.bool) = fun i => i == k := funext fun i => eqv_bb i k
  rw [this]
@[simp] theorem v_ninL (l : List Int) (k : Int) : dNin (.int k) (.list (l.map .int)) = some (.v (.bool (!l.any (· == k)))) := by
  show (if _ then _ else _) = _
  rw [if_pos ⟨shaped_int k, (shaped_ints l).1⟩, any_ints]
@[simp] theorem v_inL (l : List Int) (k : Int) : dIn (.int k) (.list (l.map .int)) = some (.v (.bool (l.any (· == k)))) := by
  show (if _ then _ else _) = _
  rw [if_pos ⟨shaped_int k, (shaped_ints l).1⟩, any_ints]
@[simp] theorem v_ninT (l : List Int) (k : Int) : dNin (.int k) (.tuple (l.map .int)) = some (.v (.bool (!l.any (· == k)))) := by
  show (if _ then _ else _) = _
  rw [if_pos ⟨shaped_int k, (shaped_ints l).2⟩, any_ints]
@[simp] theorem v_inT (l : List Int) (k : Int) : dIn (.int k) (.tuple (l.map .int)) = some (.v (.bool (l.any (· == k)))) := by
  show (if _ then _ else _) = _
  rw [if_pos ⟨shaped_int k, (shaped_ints l).2⟩, any_ints]
@[simp] theorem v_ninB (l : List Bool) (k : Bool) : dNin (.bool k) (.tuple (l.map .bool)) = some (.v (.bool (!l.any (· == k)))) := by
  show (if _ then _ else _) = _
  rw [if_pos ⟨shaped_bool k, (shaped_bools l).2⟩, any_bools]
@[simp] theorem v_isi_bb (b : Bool) : fIsi "bool" (.bool b) = some (.v (.bool true)) := by unfold fIsi; simp [tyD, kb_bb]
@[simp] theorem v_isi_bi (b : Bool) : fIsi "int" (.bool b) = some (.v (.bool true)) := by unfold fIsi; simp [tyD, kb_bi]
end Iv
set_option Elab.async false
set_option linter.all false
set_option maxRecDepth 100000
set_option maxHeartbeats 2000000
namespace Iv
open PySem L2 PyProof.Rows
variable [Cst]
/-! ### rows of pairs by their places -/
theorem enumD_range : ∀ (ds : List Dt) (k : Int), enumD k ds = (List.range ds.length).map fun (i : Nat) => .tuple [.int (k + i), ds.getD i .none]
  | [], k => rfl
  | d :: ds, k => by
    rw [enumD, enumD_range ds (k + 1), List.length_cons, List.range_succ_eq_map, List.map_cons, List.map_map]
    congr 1
    · simp
    · refine List.map_congr_left fun i _ => ?_
      simp only [Function.comp_apply, List.getD_cons_succ]
      rw [show k + 1 + (i : Int) = k + ((i.succ : Nat) : Int) by push_cast; omega]
theorem zipD_range : ∀ (ds es : List Dt), zipD ds es = (List.range (min ds.length es.length)).map fun (i : Nat) => .tuple [ds.getD i .none, es.getD i .none]
  | [], es => by simp [zipD]
  | d :: ds, [] => by simp [zipD]
  | d :: ds, e :: es => by
    rw [zipD, zipD_range ds es, List.length_cons, List.length_cons, Nat.succ_min_succ, List.range_succ_eq_map, List.map_cons, List.map_map]
    congr 1
theorem zipD3_range : ∀ (ds es fs : List Dt), zipD3 ds es fs = (List.range (min (min ds.length es.length) fs.length)).map fun (i : Nat) => .tuple [ds.getD i .none, es.getD i .none, fs.getD i .none]
  | [], es, fs => by simp [zipD3]
  | d :: ds, [], fs => by simp [zipD3]
  | d :: ds, e :: es, [] => by simp [zipD3]
  | d :: ds, e :: es, f :: fs => by
    rw [zipD3, zipD3_range ds es fs, List.length_cons, List.length_cons, List.length_cons, Nat.succ_min_succ, Nat.succ_min_succ, List.range_succ_eq_map, List.map_cons, List.map_map]
    congr 1
theorem getD_map {α : Type} (f : α → Dt) {l : List α} {i : Nat} (h : i < l.length) (x : α) : (l.map f).getD i .none = f (l.getD i x) := by
  simp [List.getD, List.getElem?_map, List.getElem?_eq_getElem h]
theorem getD_drop {α : Type} (l : List α) (i k : Nat) (x : α) : (l.drop k).getD i x = l.getD (k + i) x := by
  simp [List.getD, List.getElem?_drop]
@[simp] theorem v_zip3 (a b c : List Dt) : zip3L [.list a, .list b, .list c] = some (zipD3 a b c) := (rfl)
@[simp] theorem v_bls (bs : List Bool) : blsOf (bs.map .bool) = some bs := by
  have := blsOf_map id bs
  simp only [id] at this
  rw [this, List.map_id]
@[simp] theorem v_ints (bs : List Int) : intsOf (bs.map .int) = some bs := by
  have := intsOf_map id bs
  simp only [id] at this
  rw [this, List.map_id]
end Iv
set_option Elab.async false
set_option linter.all false
set_option maxRecDepth 100000
set_option maxHeartbeats 2000000
namespace Iv
open PySem L2 PyProof.Rows
variable [Cst]
/-- without a value, or one that never changes -/
def pl : Sl → Bool
  | .un => true
  | .sh _ => true
  | _ => false
@[simp] theorem pl1 : pl .un = true := (rfl)
@[simp] theorem pl2 (d : Dt) : pl (.sh d) = true := (rfl)
theorem pl_fr {s : Sl} (h : pl s = true) : fr s = true := by
  cases s with
  | un => rfl
  | sh d => rfl
  | ow io d => cases h
  | lo io d => cases h
  | ad a => cases h
/-! ### loops as folds, comprehensions as filters -/
theorem forL_fold {α β : Type} {b : MB} {body : MS} (emb : β → Dt) (st : α → Tau) (step : α → β → α) (P : α → Prop) : ∀ (xs : List β) (a : α), P a → (∀ a, P a → ∀ x ∈ xs, kL1 body (b (emb x) (st a)) = some (.nx, st (step a x)) ∧ P (step a x)) →
    forL b body (xs.map emb) (st a) = some (.nx, st (xs.foldl step a)) ∧ P (xs.foldl step a)
  | [], a, h0, _ => ⟨rfl, h0⟩
  | x :: xs, a, h0, hs => by
    obtain ⟨h1, p1⟩ := hs a h0 x (List.mem_cons_self ..)
    obtain ⟨h2, p2⟩ := forL_fold emb st step P xs (step a x) p1 fun a pa y hy => hs a pa y (List.mem_cons_of_mem _ hy)
    refine ⟨?_, p2⟩
    rw [List.map_cons, e_forL1, h1]
    exact h2
theorem compL_emb {β : Type} {vs : List Nat} {b : MB} {t : M Bool} {me : M Rs} {τ : Tau} (emb : β → Dt) (f : β → Option Dt) {xs : List β} (h : ∀ x ∈ xs, kc1 vs t me (b (emb x) τ) = some (f x, τ)) (hn : xs.length ≤ 1000) : compL vs b t me (xs.map emb) [] τ = some (xs.filterMap f, τ) := by
  suffices H : ∀ (xs : List β) (acc : List Dt), (∀ x ∈ xs, kc1 vs t me (b (emb x) τ) = some (f x, τ)) → acc.length + xs.length ≤ sizeLine → compL vs b t me (xs.map emb) acc τ = some (acc ++ xs.filterMap f, τ) by
    have := H xs [] h (by simp; exact sl_small hn)
    simpa using this
  intro xs
  induction xs with
  | nil => intro acc _ _; simp [compL]
  | cons x xs ih =>
    intro acc h hn
    rw [List.length_cons] at hn
    rw [List.map_cons, compL_turn (h x (List.mem_cons_self ..)) (by omega), ih _ (fun y hy => h y (List.mem_cons_of_mem _ hy)) (by cases f x <;> simp <;> omega)]
    cases hf : f x <;> simp [List.filterMap_cons, hf]
theorem filterMap_if {α β : Type} (p : α → Bool) (g : α → β) (xs : List α) : xs.filterMap (fun x => if p x = true then some (g x) else none) = (xs.filter p).map g := by
  induction xs with
  | nil => rfl
  | cons x xs ih => cases h : p x <;> simp [List.filterMap_cons, h, ih]
/-- [g for x in xs if p] -/
theorem compL_if {β : Type} {vs : List Nat} {b : MB} {t : M Bool} {me : M Rs} {τ : Tau} (emb : β → Dt) (p : β → Bool) (g : β → Dt) {xs : List β} (h : ∀ x ∈ xs, kc1 vs t me (b (emb x) τ) = some (if p x = true then some (g x) else none, τ)) (hn : xs.length ≤ 1000) : compL vs b t me (xs.map emb) [] τ = some ((xs.filter p).map g, τ) := by
  rw [compL_emb emb _ h hn, filterMap_if]
/-- [g for x in xs] -/
theorem compL_all {β : Type} {vs : List Nat} {b : MB} {t : M Bool} {me : M Rs} {τ : Tau} (emb : β → Dt) (g : β → Dt) {xs : List β} (h : ∀ x ∈ xs, kc1 vs t me (b (emb x) τ) = some (some (g x), τ)) (hn : xs.length ≤ 1000) : compL vs b t me (xs.map emb) [] τ = some (xs.map g, τ) := by
  rw [compL_emb emb (fun x => some (g x)) h hn]
  simp only [List.filterMap_eq_map']
@[simp] theorem v_intF : fInt [.bool false] = some (.v (.int 0)) := (rfl)
@[simp] theorem v_intT : fInt [.bool true] = some (.v (.int 1)) := (rfl)
theorem v_intB (b : Bool) : fInt [.bool b] = some (.v (.int (if b then 1 else 0))) := by cases b <;> rfl
/-! ### equal and unlike -/
theorem eqvAll_map {α : Type} [BEq α] {f : α → Dt} (h : ∀ x y, PyData.eqv (f x) (f y) = (x == y)) : ∀ (xs ys : List α), PyData.eqvAll (xs.map f) (ys.map f) = (xs == ys)
  | [], [] => by simp [PyData.eqvAll]
  | [], y :: ys => by simp [PyData.eqvAll]
  | x :: xs, [] => by simp [PyData.eqvAll]
  | x :: xs, y :: ys => by
    rw [List.map_cons, List.map_cons, PyData.eqvAll, h, eqvAll_map h xs ys]
    rfl
@[simp] theorem v_eqB (a b : Bool) : dEq (.bool a) (.bool b) = some (.v (.bool (a == b))) := by
  have h : SeqAt.shaped (.bool a) = true ∧ SeqAt.shaped (.bool b) = true := ⟨shaped_bool a, shaped_bool b⟩
  have e := eqv_bb a b
  unfold dEq
  simp only [h, e, and_self, if_true]
@[simp] theorem v_neB (a b : Bool) : dNe (.bool a) (.bool b) = some (.v (.bool (!(a == b)))) := by
  have h : SeqAt.shaped (.bool a) = true ∧ SeqAt.shaped (.bool b) = true := ⟨shaped_bool a, shaped_bool b⟩
  have e := eqv_bb a b
  unfold dNe
  simp only [h, e, and_self, if_true]
theorem shaped_nil : SeqAt.shaped (.list []) = true ∧ SeqAt.shaped (.tuple []) = true := (shaped_ints [])
theorem eqv_nil (ds : List Dt) : PyData.eqv (.list ds) (.list []) = ds.isEmpty := by cases ds <;> simp [PyData.eqv, PyData.eqvAll]
theorem v_neN {ds : List Dt} (h : SeqAt.shaped (.list ds) = true) : dNe (.list ds) (.list []) = some (.v (.bool (!ds.isEmpty))) := by
  show (if _ then _ else _) = _
  rw [if_pos ⟨h, shaped_nil.1⟩, eqv_nil]
@[simp] theorem v_neNN : dNe (.list []) (.list []) = some (.v (.bool false)) := by
  rw [v_neN shaped_nil.1]
  rfl
@[simp] theorem v_neNI (l : List Int) : dNe (.list (l.map .int)) (.list []) = some (.v (.bool (!l.isEmpty))) := by
  rw [v_neN (shaped_ints l).1]
  cases l <;> rfl
theorem shaped_intsG {α : Type} (g : α → Int) (l : List α) : SeqAt.shaped (.list (l.map fun i => PyData.int (g i))) = true ∧ SeqAt.shaped (.tuple (l.map fun i => PyData.int (g i))) = true := shaped_map (k := 0) (fun x => by simp [PyData.canLay0]) (fun x => by simp [PyData.depth]) (by decide) l
@[simp] theorem v_neNG {α : Type} (g : α → Int) (l : List α) : dNe (.list (l.map fun i => PyData.int (g i))) (.list []) = some (.v (.bool (!l.isEmpty))) := by
  rw [v_neN (shaped_intsG g l).1]
  cases l <;> rfl
/-! ### what may be shown -/
theorem sho_bool (b : Bool) : Sho 13 0 40 (.bool b) := by
  refine ⟨by simp only [PyData.canLay0], by simp only [PyData.showable], by simp only [PyData.intsShort], by simp only [PyData.depth]; exact Nat.le_refl _, ?_⟩
  cases b <;> simp [PyData.weight]
theorem sho_ints {l : List Int} (h : ∀ i ∈ l, i.natAbs < 10 ^ 12) {n : Nat} (hn : l.length ≤ n) : Sho 13 1 (n * 41) (.tuple (l.map .int)) :=
  sho_tup (fun d hd => by obtain ⟨i, hi, rfl⟩ := List.mem_map.mp hd; exact sho_int (h i hi)) (by rw [List.length_map]; exact hn)
theorem sho_bools {l : List Bool} {n : Nat} (hn : l.length ≤ n) : Sho 13 1 (n * 41) (.tuple (l.map .bool)) :=
  sho_tup (fun d hd => by obtain ⟨i, hi, rfl⟩ := List.mem_map.mp hd; exact sho_bool i) (by rw [List.length_map]; exact hn)
theorem repr_none : ∃ x, fRepr [.none] = some (.v (.str x)) := ⟨_, rfl⟩
theorem repr_small {i : Int} (h : i.natAbs < 10 ^ 12) : ∃ x, fRepr [.int i] = some (.v (.str x)) := repr_int (Nat.lt_of_lt_of_le h (by decide))
theorem repr_ints {l : List Int} (h : ∀ i ∈ l, i.natAbs < 10 ^ 12) (hn : l.length ≤ 1000) : ∃ x, fRepr [.tuple (l.map .int)] = some (.v (.str x)) := repr_tup (sho_ints h hn) (by decide) (by decide)
theorem repr_bools {l : List Bool} (hn : l.length ≤ 1000) : ∃ x, fRepr [.tuple (l.map .bool)] = some (.v (.str x)) := repr_tup (sho_bools hn) (by decide) (by decide)
theorem rangeD_nat (n : Nat) : rangeD 0 n = (List.range n).map fun (i : Nat) => PyData.int i := by
  unfold rangeD
  simp
end Iv
set_option Elab.async false
set_option linter.all false
set_option maxRecDepth 100000
set_option maxHeartbeats 2000000
namespace Iv
open PySem L2 PyProof.Rows
variable [Cst]
/-! ### while by a measure -/
theorem whileL_inv {t : M Bool} {body : MS} (P Q : Tau → Prop) (μ : Tau → Nat) (hs : ∀ τ, P τ → (∃ τ', t τ = some (false, τ') ∧ Q τ') ∨ (∃ τ1 τ2, t τ = some (true, τ1) ∧ body τ1 = some (.nx, τ2) ∧ P τ2 ∧ μ τ2 < μ τ)) :
    ∀ (n : Nat) (τ : Tau), P τ → μ τ < n → ∃ τ', whileL t body n τ = some (.nx, τ') ∧ Q τ'
  | 0, τ, _, h => by omega
  | n + 1, τ, hp, hn => by
    rcases hs τ hp with ⟨τ', h1, q⟩ | ⟨τ1, τ2, h1, h2, p2, hm⟩
    · exact ⟨τ', by simp [whileL, h1], q⟩
    · obtain ⟨τ', h3, q⟩ := whileL_inv P Q μ hs n τ2 p2 (by omega)
      exact ⟨τ', by simp [whileL, h1, h2, h3], q⟩
theorem while_inv {t : M Bool} {body : MS} (P Q : Tau → Prop) (μ : Tau → Nat) (hs : ∀ τ, P τ → (∃ τ', t τ = some (false, τ') ∧ Q τ') ∨ (∃ τ1 τ2, t τ = some (true, τ1) ∧ body τ1 = some (.nx, τ2) ∧ P τ2 ∧ μ τ2 < μ τ))
    (τ : Tau) (hp : P τ) (hm : μ τ < 1000000000) : ∃ τ', mWhile t body τ = some (.nx, τ') ∧ Q τ' := whileL_inv P Q μ hs _ τ hp hm
theorem v_mulL1 (d : Dt) (k : Int) (h0 : 0 ≤ k) (h1 : k ≤ 1000) : dMul (.list [d]) (.int k) = some (.nw (.list (List.replicate k.toNat d))) := by
  have hz : [d].length * k.toNat ≤ sizeLine := by
    rw [List.length_singleton, Nat.one_mul]
    exact sl_small (by omega)
  have hf : (List.replicate k.toNat [d]).flatten = List.replicate k.toNat d := by
    generalize k.toNat = n
    induction n with
    | zero => rfl
    | succ n ih => rw [List.replicate_succ, List.flatten_cons, ih, List.replicate_succ]; rfl
  unfold dMul
  have h2 : -(2 ^ 63) ≤ k ∧ k < 2 ^ 63 ∧ [d].length * k.toNat ≤ sizeLine := ⟨by omega, by omega, hz⟩
  simp only [h2, and_self, if_true, repD, hf]
theorem v_mulT (xs : List Dt) (k : Int) (h0 : xs ≠ []) (h1 : 2 ≤ k) (h2 : k ≤ 1000) (h3 : xs.length ≤ 1000) : dMul (.tuple xs) (.int k) = some (.v (.tuple (repD xs k))) := by
  exact if_pos ⟨h0, h1, h2, h3⟩
end Iv
set_option Elab.async false
set_option linter.all false
set_option maxRecDepth 100000
set_option maxHeartbeats 1000000
namespace Iv
open PySem L2 PyProof.Rows
variable [Cst]
/-! ### constants of the module -/
def toV : Dt → V
  | .int i => .int i
  | .str x => .str x
  | .bool b => .bl b
  | _ => .non
def flatD : Dt → Bool
  | .int _ => true
  | .str _ => true
  | .bool _ => true
  | .none => true
  | _ => false
theorem rp_flat {K : PySem.W.Frag} {O : AS} {H : Hp} : ∀ {ds : List Dt}, ds.all flatD = true → RpL K O H (ds.map toV) ds
  | [], _ => .nil
  | d :: ds, h => by
    rw [List.all_cons, Bool.and_eq_true] at h
    refine .cons ?_ (rp_flat h.2)
    cases d with
    | int i => exact .int i
    | str x => exact .str x
    | bool b => exact .bl b
    | none => exact .non
    | list xs => exact nomatch h.1
    | tuple xs => exact nomatch h.1
    | dict xs => exact nomatch h.1
/-- the module's tuple x -/
def TupC (K : PySem.W.Frag) (mg : Str → Option Value) (x : Str) (ds : List Dt) : Prop := ∃ a, mg x = some (.ref a) ∧ Cst.isC a ∧ SqT K noH a (ds.map toV) ∧ ds.all flatD = true
theorem tupC_of {K : PySem.W.Frag} {mg : Str → Option Value} {x : Str} {ds : List Dt} {a : Addr} {od : Option Addr} {its : Array Value} {n : Nat} {sl : Array (Option Value)} (h : mg x = some (.ref a)) (l : K.lookup a = some ⟨.type "tuple", od, .seq its n, sl⟩) (c : Cst.isC a) (r : Vals (ds.map toV) its.toList) (f : ds.all flatD = true) (z : its.size ≤ sizeLine) : TupC K mg x ds :=
  ⟨a, h, c, .inr ⟨_, its, n, l, rfl, rfl, z, r⟩, f⟩
theorem se_gtup {X : Cx} {x : Str} {ds : List Dt} {pos : Pos} (h : TupC X.K X.mg x ds) (hg : Gl X x) (hd : (x == ("__debug__" : Str)) = false := by decide) : SE X (.Name x pos) (mK (.tuple ds)) := by
  obtain ⟨a, h1, h2, h3, h4⟩ := h
  exact se_glob hg h1 (v := .ref a) rfl (fun O H => .tuk h2 h3 (rp_flat h4)) hd
theorem se_gstr {X : Cx} {x : Str} {y : Str} {pos : Pos} (h : ∃ t, X.mg x = some (.str y t)) (hg : Gl X x) (hd : (x == ("__debug__" : Str)) = false := by decide) : SE X (.Name x pos) (mK (.str y)) := by
  obtain ⟨t, h⟩ := h
  exact se_glob hg h (v := .str y) ⟨t, rfl⟩ (fun _ _ => .str y) hd
end Iv
set_option Elab.async false
set_option linter.all false
set_option maxRecDepth 100000
set_option maxHeartbeats 1000000
namespace Iv
open PySem L2 PyProof.Rows
variable [Cst]
/-! ### what is raised -/
abbrev XT := Tau → Option (Str × Tau)
abbrev XS := Tau → Option Str
def exOf (X : Cx) (r : XT) (W : WX) : TE := fun σ H _ => ∃ E τ c τ' v, SRep X.K E τ σ H ∧ r τ = some (c, τ') ∧ X.mg c = some v ∧ ∀ H', PostB X.K E τ σ H τ' H' → W v none σ H'
def sxOf (X : Cx) (r : XS) (W : WX) : TS := fun _ σ H => ∃ E τ c v, SRep X.K E τ σ H ∧ r τ = some c ∧ X.mg c = some v ∧ ∀ σ' H', Ext (Om τ σ) H H' → W v none σ' H'
structure EX (X : Cx) (e : Expr) (r : XT) : Prop where
  pe : ∀ W, Takes X W → PE X e (exOf X r W)
structure SX (X : Cx) (st : Stmt) (r : XS) : Prop where
  ps : ∀ W, Takes X W → PS X st (sxOf X r W)
structure BX (X : Cx) (sts : List Stmt) (r : XS) : Prop where
  pss : ∀ W, Takes X W → PSs X sts (sxOf X r W)
def xNo : XS := fun _ => none
def xE (r : XT) : XS := fun τ => (r τ).map (·.1)
def xRaise (c : Str) : XS := fun _ => some c
def xIf (m : M Bool) (a b : XS) : XS := fun τ => (m τ).bind fun p => if p.1 = true then a p.2 else b p.2
def xSeq (a : MS) (ra rb : XS) : XS := fun τ => match ra τ with
  | some c => some c
  | none => match a τ with
    | some (.nx, τ') => rb τ'
    | _ => none
def xFirst (ra : XS) : XS := ra
/-- a class of exceptions without __init__ -/
structure ExcC (K : PySem.W.Frag) (mg : Str → Option Value) (x : Str) : Prop where
  ex : ∃ C, mg x = some (.ref C) ∧ PySem.W.excIn K C [.type "ValueError", .type "Exception", .type "BaseException", .type "object"] "ValueError.__new__" = true ∧ PySem.W.keepIn K (.ref C) = true ∧
    PySem.W.subIn K (.ref C) (.type "BaseException") = some true ∧ PySem.W.typeIn K (.ref C) = some (.type "type")
section
variable {X : Cx} {e : Expr} {es : List Expr} {st : Stmt} {sts : List Stmt} {r ra rb : XS} {re : XT} {ma : MS} {mt : M Bool} {pos p : Pos} {x : Str}
theorem Rm.nox {k : Nat} (r : Rm X k) : Rm X.nox k := ⟨r.hG, r.hr⟩
theorem PS.nox (h : PS X.nox st t) : PS X st t := ⟨fun pins s σ H D I q => wpAny_mono (h.run pins s σ H D (I.wish _) q) (fun f s' z => z.unwish) fun _ _ z => z.elim⟩
theorem pa_nox {t : TA} (h : PA X.nox es t) : PA X es t := ⟨fun pos pins s σ H Q I q => wpAny_mono (h.run pos pins s σ H Q (I.wish _) q) (fun vs s1 ⟨xs, H1, I1, z⟩ => ⟨xs, H1, I1.unwish, z⟩) fun _ _ z => z.elim⟩
theorem bx_no : BX X sts xNo := ⟨fun W tk => ⟨fun pins s σ H D I h => by obtain ⟨E, τ, c, v, S, hm, _⟩ := h; cases hm⟩⟩
theorem sx_no : SX X st xNo := ⟨fun W tk => ⟨fun pins s σ H D I h => by obtain ⟨E, τ, c, v, S, hm, _⟩ := h; cases hm⟩⟩
theorem bx_one (h : SX X st r) : BX X [st] r := ⟨fun W tk => pss_one (h.ps W tk)⟩
theorem bx_first (h : SX X st r) : BX X (st :: sts) (xFirst r) := by
  refine ⟨fun W tk => ⟨fun pins s σ H D I q => ?_⟩⟩
  exact (pss_cons (u := fun _ _ _ => False) (h.ps W tk) ⟨fun _ _ _ _ _ _ z => z.elim⟩).run pins s σ H D I q
theorem bx_cons (h1 : SS X.nox st ma) (hx : SX X st ra) (h2 : BX X sts rb) : BX X (st :: sts) (xSeq ma ra rb) := by
  refine ⟨fun W tk => ⟨fun pins s σ H D I q => ?_⟩⟩
  obtain ⟨E, τ, c, v, S, hm, hv, k⟩ := q
  unfold xSeq at hm
  split at hm
  · rename_i c' e1
    cases hm
    exact (bx_first hx).pss W tk |>.run pins s σ H D I ⟨E, τ, c, v, S, e1, hv, k⟩
  · split at hm
    · rename_i τ' e2
      refine (pss_cons (PS.nox h1.ps) (h2.pss W tk)).run pins s σ H D I ?_
      exact ⟨E, τ, .nx, τ', S, e2, fun σ1 H1 Q S1 => ⟨E, τ', c, v, S1, hm, hv, fun σ' H' e' => k σ' H' (Q.ext.trans e' Q.om)⟩⟩
    · cases hm
theorem sx_if {c : Expr} {a b : List Stmt} (hc : ST X.nox c mt) (ha : BX X a ra) (hb : BX X b rb) : SX X (.If c a b pos) (xIf mt ra rb) := by
  refine ⟨fun W tk => ⟨fun pins s σ H D I q => ?_⟩⟩
  obtain ⟨E, τ, cl, v, S, hm, hv, k⟩ := q
  simp only [xIf, Option.bind_eq_some_iff] at hm
  obtain ⟨⟨bt, τ1⟩, h1, h2⟩ := hm
  refine (ps_if (PT.nox hc.pt) (ha.pss W tk) (hb.pss W tk)).run pins s σ H D I ⟨E, τ, bt, τ1, S, h1, fun H1 P => ?_⟩
  cases bt with
  | true => exact ⟨E, τ1, cl, v, P.rep, h2, hv, fun σ' H' e' => k σ' H' (P.ext.trans e' fun a z => .inl (P.dn.om z))⟩
  | false => exact ⟨E, τ1, cl, v, P.rep, h2, hv, fun σ' H' e' => k σ' H' (P.ext.trans e' fun a z => .inl (P.dn.om z))⟩
theorem exW {W : WX} {σ : L2.St} {H : Hp} (q : sxOf X (xE re) W D σ H) : ∀ Q, exOf X re W σ H Q := by
  intro Q
  obtain ⟨E, τ, c, v, S, hm, hv, k⟩ := q
  simp only [xE, Option.map_eq_some_iff] at hm
  obtain ⟨⟨c', τ'⟩, h1, rfl⟩ := hm
  exact ⟨E, τ, _, τ', v, S, h1, hv, fun H' P => k σ H' P.ext⟩
theorem sx_expr (h : EX X e re) (hs : swapsWith e none pos.line X.env = pure false := by rfl) : SX X (.Expr e pos) (xE re) :=
  ⟨fun W tk => ⟨fun pins s σ H D I q => (ps_expr (h.pe W tk) hs).run pins s σ H D I (exW q _)⟩⟩
theorem sx_ret (h : EX X e re) : SX X (.Return (some e) pos) (xE re) :=
  ⟨fun W tk => ⟨fun pins s σ H D I q => (ps_ret (h.pe W tk)).run pins s σ H D I (exW q _)⟩⟩
theorem sx_set {i : Nat} {pos' : Pos} (hN : X.N.Nodup) (hi : X.N[i]? = some x) (hx : Loc X.env.scope x) (h : EX X e re) (hs : swapsWith e (some (.Name x pos')) pos.line X.env = pure false := by rfl) (hf : X.fn x = true ∨ X.env.scope.names.lookup x = some .local := by first | exact .inl rfl | exact .inr rfl | assumption) :
    SX X (.Assign [.Name x pos'] e pos) (xE re) :=
  ⟨fun W tk => ⟨fun pins s σ H D I q => (ps_set hN hi hx (h.pe W tk) hs hf).run pins s σ H D I (exW q _)⟩⟩
/-- X() -/
theorem pmk_own0 {B newId initId : String} {bmB : List Value} {C : Addr} (F : ExcBaseFacts B newId initId bmB) (q : PySem.W.excIn X.K C bmB newId = true) (gC : X.mg x = some (.ref C)) (kC : PySem.W.keepIn X.K (.ref C) = true) (r : Raises X (.ref C)) (hg : Gl X x)
    (hdb : (x == ("__debug__" : Str)) = false := by decide) : PMk X (.Call (.Name x p) [] [] pos) (fun _ H Q => Q (.ref C) none H) := by
  intro pins s σ H Q I h
  refine wpAny_Call_Name_kw (ld_glob I hg gC ?_ hdb)
  refine PySem.W.callWith_K0 I.kIn kC ?_
  have I1 := I
  show wpAny _ _ (call (.ref C) []) _ _ _
  obtain ⟨bm, N, nm, qn, bs, hdct, sn, sub, ab, col, dd, k0, k1, k2, k3, k5, mN, hC, hN, hni, T⟩ := exc_obj I1.kIn q
  refine wpAny_call_exc_subT F T hC hN hni (fun h' e hm => ?_) (by show 0 ≤ sizeLine; exact Nat.zero_le _)
  exact mk_of I1 hm r h (I1.hok.gone hm.new)
theorem sx_raise (hc : X.calm = true) (A : ExcC X.K X.mg x) (hg : Gl X x) (hdb : (x == ("__debug__" : Str)) = false := by decide) : SX X (.Raise (some (.Call (.Name x p) [] [] pos)) none pos') (xRaise x) := by
  obtain ⟨C, h1, h2, h3, h4, h5⟩ := A.ex
  refine ⟨fun W tk => ⟨fun pins s σ H D I q => ?_⟩⟩
  obtain ⟨E, τ, c, v, S, hm, hv, k⟩ := q
  cases hm
  rw [h1] at hv
  cases hv
  exact (ps_raise hc tk (pmk_own0 PySem.F.excBase_ValueError h2 h1 h3 (raises_own h4 h5) hg hdb)).run pins s σ H D I (k σ H .refl)
end
/-! ### a def that raises -/
def shSl : Sl → Bool
  | .sh _ => true
  | _ => false
def gX (np nN : Nat) (rb : XS) : XS := fun τ0 => if τ0.length = np ∧ np ≤ nN ∧ τ0.all shSl = true then rb (τ0 ++ List.replicate (nN - np) .un) else none
def spX (K : PySem.W.Frag) (mg : Str → Option Value) (np : Nat) (g : XS) : Sp := fun vs H _ E => vs.length = np ∧ ∃ Ex τ0 c v, SRep K Ex τ0 (vs.map some) H ∧ τ0.all shSl = true ∧ g τ0 = some c ∧ mg c = some v ∧ ∀ H', Ext nO H H' → E v none H'
theorem om_sh {τ : Tau} {σ : L2.St} (h : τ.all shSl = true) {a : Addr} : ¬ Om τ σ a := by
  rintro ⟨i, io, d, e, _⟩
  have := List.all_eq_true.mp h _ (List.mem_of_getElem? e)
  cases this
section
variable {P : Program} {w : World} {K : PySem.W.Frag} {mg : Str → Option Value} {base : Heap} {k : Nat} {f : Addr} {fd : FuncData} {name qual : Str} {st : Stmt} {N ps : List Str} {rb : XS}
theorem fnX_of (F : Fun K name qual st f fd) (S : FnScope N ps (defScope st))
    (hbody : ∀ (cdv : Value) (A : Around) (outer : List Env) (s : Shared) (H : Hp) (E : XK), (A.deeper (envOfC qual (defScope st) s.heap.objs.size f cdv)).guards = some [] → Room k (A.deeper (envOfC qual (defScope st) s.heap.objs.size f cdv)) →
      BX (cxOf (CX P w) P w K mg base N qual (defScope st) f cdv A outer s H E) (defBody st) rb) : FnG P w K mg base (CX P w) (k + 1) f fd ps (spX K mg ps.length (gX ps.length N.length rb)) := by
  refine fnG_walk F S (fun vs H Q E h => h.1) fun cdv A outer s H vs Q E hG hr hsp => ?_
  obtain ⟨hl, Ex, τ0, c, v, S0, hsh, hg, hv, kq⟩ := hsp
  have tk : Takes (cxOf (CX P w) P w K mg base N qual (defScope st) f cdv A outer s H E) (fun cls d _ H' => E cls d H') := takes_of rfl rfl rfl rfl
  refine ⟨_, (hbody cdv A outer s H E hG hr).pss _ tk, ?_⟩
  unfold gX at hg
  split at hg
  · rename_i hc
    obtain ⟨h1, h2, h3⟩ := hc
    have eσ : L2.start N vs = vs.map some ++ List.replicate (N.length - ps.length) none := by unfold L2.start; rw [hl]
    rw [eσ]
    refine ⟨Ex, _, c, v, S0.pad (n := N.length - ps.length), hg, hv, fun σ' H' e => kq H' (e.wider fun a z => ?_)⟩
    exact om_sh hsh (om_pad S0.len z)
  · cases hg
end
/-- a def that may raise -/
structure CalX (P : Program) (w : World) (K : PySem.W.Frag) (mg : Str → Option Value) (base : Heap) (k : Nat) (x : Str) (ps : List Str) (g : XS) : Prop where
  ex : ∃ f fd, FnG P w K mg base (CX P w) k f fd ps (spX K mg ps.length g) ∧ mg x = some (.ref f) ∧ PySem.W.keepIn K (.ref f) = true ∧ Binds K fd ps []
section
variable {P : Program} {w : World} {K : PySem.W.Frag} {mg : Str → Option Value} {base : Heap} {k : Nat} {x : Str} {st : Stmt} {N ps : List Str} {rb : XS}
theorem calX_of (D : DefG K mg x ps st) (S : FnScope N ps (defScope st))
    (hbody : ∀ (f : Addr) (cdv : Value) (A : Around) (outer : List Env) (s : Shared) (H : Hp) (E : XK), Rm (cxOf (CX P w) P w K mg base N x (defScope st) f cdv A outer s H E) k → BX (cxOf (CX P w) P w K mg base N x (defScope st) f cdv A outer s H E) (defBody st) rb) : CalX P w K mg base (k + 1) x ps (gX ps.length N.length rb) := by
  obtain ⟨f, fd, F, hm, hb⟩ := D.ex
  exact ⟨f, fd, fnX_of F S fun cdv A outer s H E hG hr => hbody f cdv A outer s H E ⟨hG, hr⟩, hm, F.kp, hb⟩
end
theorem run_fnGS {X : Cx} {CX : CXT} {k : Nat} {f : Addr} {fd : FuncData} {ps : List Str} {sp : Sp} {E : XK} {pins : List (Addr × Obj)} {σ : L2.St} {H : Hp} {s : Shared} {Q : VK} {us : List Value} {vs : List V}
    (F : FnG X.prog X.w X.K X.mg X.base CX k f fd ps sp) (hG : X.A.guards = some []) (hr : Room k X.A) (hb : Binds X.K fd ps []) (hx : PassesAt CX X σ E) (I : Inv X pins σ H s) (r : Vals vs us) (h : sp vs H Q E) :
    wpAny (model X.prog X.w) X.A (call (.ref f) us) (EP X pins σ Q) X.xe s := by
  have hlen : us.length = ps.length := by rw [← r.length]; exact F.len _ _ _ _ h
  have b := hb s us I.kIn (by rw [List.append_nil]; exact hlen)
  rw [List.append_nil] at b
  refine wpAny_call (codeAny_mono (F.run X.A X.stack s H ⟨us, []⟩ us vs Q E hG hr I.env0 b r h) fun res s' hq => ?_)
  cases res with
  | error e => exact hx pins H s e s' I hq
  | ok fl =>
    cases fl with
    | ret u => exact I.after hq
    | next => exact False.elim hq
    | brk => exact False.elim hq
    | cont => exact False.elim hq
def mCallX (np : Nat) (g : XS) (ma : M (List Rs)) : XT := fun τ => (ma τ).bind fun p => if p.1.length = np then (argsT none p.1 p.2).bind fun τ0 => if τ0.all shSl = true then (g τ0).map fun c => (c, p.2) else none else none
section
variable {X : Cx} {j k : Nat} {ps : List Str} {g : XS} {x : Str} {p pos : Pos} {e : Expr} {es : List Expr} {ma : M (List Rs)}
theorem ex_call (C : CalX X.prog X.w X.K X.mg X.base j x ps g) (R : Rm X k) (hjk : j ≤ k) (hg : Gl X x) (ha : SA X.nox (e :: es) ma)
    (hdb : (x == ("__debug__" : Str)) = false := by decide) (he : starEach (e :: es) X.env = (false, eval e X.env) :: starEach es X.env := by rfl) (hpl : (backTo pos (starEach es X.env)).any (·.1) = false := by rfl) :
    EX X (.Call (.Name x p) (e :: es) [] pos) (mCallX ps.length g ma) := by
  obtain ⟨f, fd, F, hm, hk, hb⟩ := C.ex
  refine ⟨fun W tk => ⟨fun pins s σ H Q I h => wpAny_Call_Name_kw (ld_glob I hg hm ?_ hdb)⟩⟩
  obtain ⟨E, τ, c, τ', v, S, hmm, hv, kq⟩ := h
  simp only [mCallX, Option.bind_eq_some_iff] at hmm
  obtain ⟨⟨rs, τ1⟩, h1, h2⟩ := hmm
  split at h2
  · rename_i hnp
    simp only [Option.bind_eq_some_iff] at h2
    obtain ⟨τ0, h3, h4⟩ := h2
    split at h4
    · rename_i hsh
      simp only [Option.map_eq_some_iff] at h4
      obtain ⟨c', h5, h6⟩ := h4
      cases h6
      have one : ∀ i, ioSl none rs = some i → rs.countP (isSl i) = 1 := fun i z => by cases z
      refine PySem.W.callWith_K (h₀ := X.base) I.ok.mod.kin hk (thn ((pa_nox ha.pa).run pos pins s σ H (fun vs H1 => spX X.K X.mg ps.length g vs H1 Q fun cls d H' => W cls d σ H') I ⟨E, τ, rs, _, S, h1, fun vs H1 P => ?_⟩) fun us s1 ⟨vs, H1, I1, rv, q⟩ => ⟨I1.kIn, ?_⟩) he hpl
      · obtain ⟨S0, okp, osS⟩ := args_rep P.rep P.res h3 one
        have hl := (P.res.get).1
        refine ⟨by rw [← hl]; exact hnp, _, τ0, c, v, S0, hsh, h5, hv, fun H2 e2 => kq H2 ?_⟩
        exact PostB.comp ⟨P.ext, P.dn, P.rep⟩ ⟨e2.wider fun _ z => z.elim, .refl, P.rep.grow e2⟩
      · exact run_fnGS (F.mono hjk) R.hG R.hr hb (passAt tk σ) I1 rv q
    · cases h4
  · cases h2
end
end Iv
set_option Elab.async false
set_option linter.all false
set_option maxRecDepth 100000
set_option maxHeartbeats 2000000
namespace Iv
open PySem L2 PySem.Spec PyProof.Rows
variable [Cst]
/-! ### a lambda is made -/
/-- one more code object in the table P -/
theorem ext_tab {H : Hp} {P c : Addr} {ps : Array Value} {pos : Pos} (hP : H P = some (.tbl ps)) (nC : H c = none) :
    Ext nO H (upd (upd H P (.tbl (ps ++ #[rawInt pos.line, rawInt pos.col, .ref c]))) c (LamX.CodeO c Cst.lamQ)) := by
  have nPc : P ≠ c := ne_of_none hP nC
  have kp : ∀ a o, nTab o → H a = some o → upd (upd H P (.tbl (ps ++ #[rawInt pos.line, rawInt pos.col, .ref c]))) c (LamX.CodeO c Cst.lamQ) a = some o := fun a o n e => by
    have h1 : a ≠ c := ne_of_none e nC
    have h2 : a ≠ P := fun z => by rw [z, hP] at e; cases e; exact n
    rw [upd_ne h1, upd_ne h2]; exact e
  refine ⟨fun a o _ n e => kp a o n e, fun a xs e => kp a _ trivial e, fun a q => ?_, fun t P' qs hP' => ?_⟩
  · by_cases h1 : a = c
    · rw [h1, upd_same]; simp
    · rw [upd_ne h1]
      by_cases h2 : a = P
      · rw [h2, upd_same]; simp
      · rw [upd_ne h2]; exact q
  · by_cases h1 : P' = c
    · rw [h1, upd_same] at hP'
      unfold LamX.CodeO at hP'
      cases hP'
    · rw [upd_ne h1] at hP'
      by_cases h2 : P' = P
      · rw [h2, upd_same] at hP'
        cases hP'
        obtain ⟨t1, t2⟩ := t P ps hP
        have eL : (ps ++ #[rawInt pos.line, rawInt pos.col, Value.ref c]).toList = ps.toList ++ [rawInt pos.line, rawInt pos.col, .ref c] := by simp
        rw [eL]
        refine ⟨PySem.TriplesOk_snoc _ _ _ _ t1, fun p' cv hcv => ?_⟩
        rcases LamX.among_app _ t1 hcv with z | z
        · obtain ⟨c0, e1, e2⟩ := t2 p' cv z
          exact ⟨c0, e1, kp c0 _ trivial e2⟩
        · exact ⟨c, z, upd_same⟩
      · rw [upd_ne h2] at hP'
        obtain ⟨t1, t2⟩ := t P' qs hP'
        refine ⟨t1, fun p' cv hcv => ?_⟩
        obtain ⟨c0, e1, e2⟩ := t2 p' cv hcv
        exact ⟨c0, e1, kp c0 _ trivial e2⟩
section
variable {X : Cx} {pins : List (Addr × Obj)} {σ : L2.St} {H : Hp} {s : Shared}
theorem lam_new {c P : Addr} {ps : Array Value} {params : Arguments} {body : Expr} {scope : Scope} {pos : Pos} {E : Value → Shared → Prop} {Q : Value → Shared → Prop} (I : L2.Inv X pins σ H s) (TB : LamX.TabB X.base X.mg c P) (hcode : X.env.code = .ref c)
    (hP : H P = some (.tbl ps)) (tb : Tabs H) (hq : X.env.qual ++ "<lambda>" = Cst.lamQ) (hdef : defaultsOf params X.env = ([], [])) (hfree : ∀ y ∈ scope.names, y.2 = .free → ∃ c, X.env.cells.lookup y.1 = some c)
    (h : ∀ (f c' : Addr) (pm ctv : Value) (H1 : Hp) (s' : Shared), L2.Inv X pins σ H1 s' → Ext nO H H1 →
      s'.heap.get? f = some (PySem.W.kla_obj "<lambda>" Cst.lamQ params body scope (cloFrom X.env.cells scope.names []) pm c' ctv) → H1 f = none → f ∉ frs X.stack → H1 c' = some (LamX.CodeO c' Cst.lamQ) → Q (.ref f) s') :
    wpAny (model X.prog X.w) X.A (eval (.Lambda params body scope pos) X.env) Q E s := by
  obtain ⟨ht, ha⟩ := tb P ps hP
  rw [← hq] at h ha
  have bP : s.heap.BuiltinsAt X.mg P := TB.bm.keeps I.bk
  have hP' : s.heap.get? P = some { cls := .none, data := .fields ps } := I.hok P _ hP
  have far : ∀ f, s.heap.objs.size ≤ f → f ∉ frs X.stack := by
    intro f hf z
    rcases List.mem_cons.mp (I.stkSub _ z) with e | e
    · have h1 := I.lt
      rw [← e] at h1
      exact absurd h1 (Nat.not_lt.mpr hf)
    · exact I.nofs hf e
  refine PySem.W.kla_eval hdef ?_
  cases hc : codeAmong pos ps.toList with
  | some cv =>
    obtain ⟨c', rfl, hco⟩ := ha pos cv hc
    refine PySem.W.kla_makeFunctionHit (mg := X.mg) (c := c) (P := P) (ps := ps) (closure_ok hfree) I.ok.glob (I.mod.glob.keeps I.bk) hcode (TB.code.keeps I.bk) hP' ht hc bP ?_
    intro ctv h' tk hx hsz
    refine h h'.objs.size c' ((X.mg "__name__").getD .none) ctv H _ (I.kept (t' := tk) (h' := h'.push _) fun b o e => Heap.get?_push_of_some _ (hx b o e)) .refl (Heap.get?_push_size _ rfl) (I.hok.fresh hsz) (far _ hsz) hco
  | none =>
    refine PySem.W.kla_makeFunction (mg := X.mg) (c := c) (P := P) (ps := ps) (closure_ok hfree) I.ok.glob (I.mod.glob.keeps I.bk) hcode (TB.code.keeps I.bk) hP' ht hc TB.gP bP ?_
    intro c' ctv h' tk hx hge hlt hrec htb
    obtain ⟨c2, oc, vs, t, e2, hoc, hd, hv⟩ := hrec
    cases e2
    have hsz : s.heap.objs.size ≤ h'.objs.size := by omega
    have nC : H c' = none := I.hok.fresh hge
    have I1 := LamX.inv_table (t' := tk) (q := X.env.qual ++ "<lambda>") (more := #[rawInt pos.line, rawInt pos.col, .ref c']) (h' := h'.push (PySem.W.kla_obj "<lambda>" (X.env.qual ++ "<lambda>") params body scope (cloFrom X.env.cells scope.names []) ((X.mg "__name__").getD .none) c' ctv)) I hP
      (fun b o hb e => Heap.get?_push_of_some _ (hx b o hb e)) (Heap.get?_push_of_some _ htb) hge ⟨oc, vs, t, Heap.get?_push_of_some _ hoc, hd, hv⟩
    have ex := ext_tab (pos := pos) hP nC
    rw [← hq] at ex
    refine h h'.objs.size c' ((X.mg "__name__").getD .none) ctv _ _ I1 ex (Heap.get?_push_size _ rfl) ?_ (far _ hsz) upd_same
    have n1 : h'.objs.size ≠ c' := by omega
    have n2 : h'.objs.size ≠ P := by
      exact Nat.ne_of_gt (Nat.lt_of_lt_of_le (Heap.lt_size hP') hsz)
    rw [upd_ne n1, upd_ne n2]
    exact I.hok.fresh hsz
end
end Iv
set_option Elab.async false
set_option linter.all false
set_option maxRecDepth 100000
set_option maxHeartbeats 2000000
namespace Iv
open PySem L2 PySem.Spec PyProof.Rows
variable [Cst]
/-! ### what an except suite knows of the error -/
structure RmS (X : Cx) : Prop where
  hG : X.A.guards = some []
  hu : X.A.units + 64 < cLine
  hu5 : X.A.units + 65 < cLine
theorem Rm.suite {X : Cx} {k : Nat} (r : Rm X k) {a : Addr} {pn : List (Addr × Obj)} : RmS (X.suite a pn) := ⟨r.hG, r.hu, r.hu5⟩
structure ErrF (K : PySem.W.Frag) (mg : Str → Option Value) (cs : List Str) (isB : Str → Str → Bool) : Prop where
  cls : ∀ c ∈ cs, ∃ D, mg c = some (.ref D) ∧ L2.ExcC K D
  kit : ∀ c ∈ cs, ∀ x ∈ cs, ∀ D C, mg c = some (.ref D) → mg x = some (.ref C) → PySem.W.kitOne K (.ref D) (.ref C) = some (isB c x)
  kitV : ∀ c ∈ cs, ∀ D, mg c = some (.ref D) → PySem.W.kitOne K (.ref D) (.type "ValueError") = some true
  exm : ∀ c ∈ cs, ∀ x ∈ cs, ∀ D C, mg c = some (.ref D) → mg x = some (.ref C) → PySem.W.exmOne K (.ref D) (.ref C) = some (isB c x)
def mIsE (i : Nat) (a : Addr) (b : Bool) : M Rs := fun τ => match τ[i]? with
  | some (.ad a') => if a' = a then some (.v (.bool b), τ) else none
  | _ => none
section
variable {X : Cx} {a D : Addr} {oe : Obj} {pn : List (Addr × Obj)} {cs : List Str} {isB : Str → Str → Bool} {c x n : Str} {i : Nat} {p p1 p2 pos : Pos}
theorem isE_go {ex : Expr} {cv : V} {cu : Value} {b : Bool} (C : L2.ExcC X.K D) (hz : Zc (.ref D) none oe) (hf : ∃ vs, oe.data = .fields vs) (hN : X.N[i]? = some n) (hv : Vis X.env.scope n) (hgi : Gl X "isinstance") (hmi : X.mg "isinstance" = none)
    (hx : PE (X.suite a ((a, oe) :: pn)) ex (tC cv)) (hr : ∀ u, RelV cv u → u = cu) (hk : PySem.W.kitOne X.K (.ref D) cu = some b)
    (hd : (n == ("__debug__" : Str)) = false := by decide) (hcd : (n == ("__classdict__" : Str)) = false := by decide) (he : ∀ env, starEach [.Name n p1, ex] env = (false, eval (.Name n p1) env) :: starEach [ex] env := by exact fun _ => rfl) (he2 : ∀ env, starEach [ex] env = (false, eval ex env) :: starEach [] env := by exact fun _ => rfl)
    (hpl : (backTo pos (starEach [ex] X.env)).any (·.1) = false := by rfl) : SE (X.suite a ((a, oe) :: pn)) (.Call (.Name "isinstance" p) [.Name n p1, ex] [] pos) (mIsE i a b) := by
  refine ⟨peW (pe_callB (call_isE C hz hf) hgi hmi (by decide +kernel) (pa_cons (pe_var (i := i) hN hv hd hcd) (pa_cons hx pa_nil (he2 _)) (he _)) (by decide) (by decide) (he _) hpl) fun σ H Q q => ?_⟩
  obtain ⟨E, τ, r, τ', S, hm, k⟩ := q
  unfold mIsE at hm
  split at hm
  · rename_i a' e
    split at hm
    · rename_i ea
      cases hm
      subst ea
      exact ⟨_, S.ad i _ e, cv, cu, b, rfl, hr, hk, k _ H (post_step S .refl (.bl b))⟩
    · cases hm
  · cases hm
theorem se_isE (F : ErrF X.K X.mg cs isB) (hc : c ∈ cs) (hx : x ∈ cs) (hD : X.mg c = some (.ref D)) (hz : Zc (.ref D) none oe) (hf : ∃ vs, oe.data = .fields vs) (hN : X.N[i]? = some n) (hv : Vis X.env.scope n) (hgi : Gl X "isinstance") (hmi : X.mg "isinstance" = none) (hgx : Gl X x)
    (hd : (n == ("__debug__" : Str)) = false := by decide) (hcd : (n == ("__classdict__" : Str)) = false := by decide) (hdx : (x == ("__debug__" : Str)) = false := by decide) :
    SE (X.suite a ((a, oe) :: pn)) (.Call (.Name "isinstance" p) [.Name n p1, .Name x p2] [] pos) (mIsE i a (isB c x)) := by
  obtain ⟨D', h1, h2⟩ := F.cls c hc
  rw [hD] at h1
  cases h1
  obtain ⟨C, h3, _⟩ := F.cls x hx
  exact isE_go h2 hz hf hN hv hgi hmi (pe_glob (X := X.suite a ((a, oe) :: pn)) (v := .ref C) hgx h3 rfl hdx) (fun u r => r) (F.kit c hc x hx D C hD h3) hd hcd
theorem se_isV (F : ErrF X.K X.mg cs isB) (hc : c ∈ cs) (hD : X.mg c = some (.ref D)) (hz : Zc (.ref D) none oe) (hf : ∃ vs, oe.data = .fields vs) (hN : X.N[i]? = some n) (hv : Vis X.env.scope n) (hgi : Gl X "isinstance") (hmi : X.mg "isinstance" = none) (hgx : Gl X "ValueError") (hmx : X.mg "ValueError" = none)
    (hd : (n == ("__debug__" : Str)) = false := by decide) (hcd : (n == ("__classdict__" : Str)) = false := by decide) :
    SE (X.suite a ((a, oe) :: pn)) (.Call (.Name "isinstance" p) [.Name n p1, .Name "ValueError" p2] [] pos) (mIsE i a true) := by
  obtain ⟨D', h1, h2⟩ := F.cls c hc
  rw [hD] at h1
  cases h1
  exact isE_go h2 hz hf hN hv hgi hmi (pe_bltn (X := X.suite a ((a, oe) :: pn)) (v := .ty "ValueError") hgx hmx (by decide +kernel) rfl) (fun u r => r) (F.kitV c hc D hD) hd hcd
end
end Iv
set_option Elab.async false
set_option linter.all false
set_option maxRecDepth 100000
set_option maxHeartbeats 2000000
namespace Iv
open PySem L2 PySem.Spec PyProof.Rows
variable [Cst]
/-! ### f(lambda: e), f a def that tries it -/
/-- the reading of the lambda's body: it gives something, or it raises -/
def tLb (K : PySem.W.Frag) (mg : Str → Option Value) (m : M Rs) (r : XT) (Ech : XK) : TE := fun σ H Q => tOf K m σ H Q ∨ ∃ E τ c τ' v, SRep K E τ σ H ∧ r τ = some (c, τ') ∧ mg c = some v ∧ ∀ H', PostB K E τ σ H τ' H' → Ech v none H'
theorem lb_body {X : Cx} {A : Around} {outer : List Env} {s : Shared} {H : Hp} {E : XK} {scope : Scope} {f c' : Addr} {body : Expr} {m : M Rs} {r : XT} (hm : SE (LamX.lamCx X A outer s H E scope f c').nox body m) (hr : EX (LamX.lamCx X A outer s H E scope f c') body r) :
    PE (LamX.lamCx X A outer s H E scope f c') body (tLb X.K X.mg m r E) := by
  have tk : Takes (LamX.lamCx X A outer s H E scope f c') (fun cls d _ H' => E cls d H') := takes_of rfl rfl rfl rfl
  refine ⟨fun pins s1 σ H1 Q I q => ?_⟩
  rcases q with q | ⟨E', τ, c, τ', v, S, h1, h2, k⟩
  · exact (PE.nox hm.pe).run pins s1 σ H1 Q I q
  · exact (hr.pe _ tk).run pins s1 σ H1 Q I ⟨E', τ, c, τ', v, S, h1, h2, fun H' P => k H' P⟩
section
variable {X : Cx} {pins : List (Addr × Obj)} {σ : L2.St} {H : Hp} {s : Shared}
/-- the call of what was handed in, in the def that got it -/
theorem lam_act {Eg : XK} {Ng : List Str} {qg : Str} {sg : Scope} {g f c' : Addr} {cdg pm ctv : Value} {params : Arguments} {body : Expr} {scope : Scope} {k i : Nat} {a : Str} {pn : List (Addr × Obj)} {xe : Value → Shared → Prop} {W : WX} {Ech : XK} {tb : TE} {p1 p2 : Pos}
    (I : L2.Inv X pins σ H s) (L : LamX.LamS X.env.scope scope) (hf : s.heap.get? f = some (PySem.W.kla_obj "<lambda>" (X.env.qual ++ "<lambda>") params body scope (cloFrom X.env.cells scope.names []) pm c' ctv)) (hfn : H f = none) (hfr : f ∉ frs X.stack)
    (hbind : bindArgs (PySem.W.kla_fn "<lambda>" (X.env.qual ++ "<lambda>") params body scope (cloFrom X.env.cells scope.names []) pm (.ref c') ctv) ⟨[], []⟩ = pure [])
    (tk : Takes ((cxOf CX0 X.prog X.w X.K X.mg X.base Ng qg sg g cdg X.A X.stack s H Eg).tr pn xe) W) (hr : Room (k + 1) (X.A.deeper (envOfC qg sg s.heap.objs.size g cdg)))
    (hbody : ∀ (s1 : Shared) (H1 : Hp), Room k ((X.A.deeper (envOfC qg sg s.heap.objs.size g cdg)).deeper (LamX.lamEnv X scope s1.heap.objs.size f c')) → PE (LamX.lamCx X (X.A.deeper (envOfC qg sg s.heap.objs.size g cdg)) (envOfC qg sg s.heap.objs.size g cdg :: X.stack) s1 H1 Ech scope f c') body tb)
    (hN : Ng[i]? = some a) (hv : Vis sg a) (hd : (a == ("__debug__" : Str)) = false := by decide) (hcd : (a == ("__classdict__" : Str)) = false := by decide) :
    PE ((cxOf CX0 X.prog X.w X.K X.mg X.base Ng qg sg g cdg X.A X.stack s H Eg).tr pn xe) (.Call (.Name a p1) [] [] p2)
      (fun σZ HZ Q => σZ[i]? = some (some (.ref f)) ∧ HZ c' = some (LamX.CodeO c' (X.env.qual ++ "<lambda>")) ∧ (∀ cls d H', Ech cls d H' → W cls d σZ H') ∧ tb σ HZ Q) := by
  constructor
  intro pinsZ sZ σZ HZ Q IZ ⟨hs, hc, hW, ht⟩
  refine wpAny_Call_Name_kw (thn ((pe_var (pos := p1) (i := i) hN hv hd hcd).run pinsZ sZ σZ HZ (fun v H1 => v = .ref f ∧ H1 = HZ) IZ ⟨.ref f, hs, rfl, rfl⟩) ?_)
  intro u s1 ⟨v0, H1, I1, r1, e1, e2⟩
  subst e1
  rw [e2] at I1
  clear e2 H1
  obtain rfl : u = Value.ref f := r1
  have atf : s1.heap.get? f = some (PySem.W.kla_obj "<lambda>" (X.env.qual ++ "<lambda>") params body scope (cloFrom X.env.cells scope.names []) pm c' ctv) := I1.base.keep f _ hf hfn hfr fun z => by cases z
  refine PySem.W.callWith_F0 ⟨_, _, _, _, atf⟩ ?_
  have un : L2.Un (frs X.stack) [] H HZ s.heap s1.heap := I1.base
  obtain ⟨⟨oc, vs, t, hoc, hdc, hvc⟩, _, _⟩ := I1.hok c' _ hc
  have run : codeAny (model X.prog X.w) (X.A.deeper (envOfC qg sg s.heap.objs.size g cdg)) (.call (.ref f) ⟨[], []⟩) (CR (L2.CX X.prog X.w) (envOfC qg sg s.heap.objs.size g cdg :: X.stack) X.prog X.w HZ s1 Q Ech) s1 := by
    refine PySem.W.kla_callFunE hr.depth atf rfl L.co L.gen rfl ⟨c', oc, vs, t, rfl, hoc, hdc, hvc⟩ ?_
    rw [hbind]
    refine wpAny_pure (wpAny_newFunctionEnv (fun y hy => (L.own y hy).2) (fun y hy => by cases hy) (fun h₁ hns hsb => ⟨I1.nolimit.fresh _ hsb, ?_⟩) L.kind)
    have kept : ∀ b o, s1.heap.get? b = some o → h₁.get? b = some o := fun b o e => hsb.extBut b o (Nat.ne_of_lt (Heap.lt_size e)) (Heap.get?_push_of_some _ e)
    have J := LamX.lam_start2 (E := Ech) (f := f) (c' := c') (tk := s1.toks + ([] : List (Str × Value)).length) I L I1.env0 hr.hd un hns kept
    refine PySem.W.kla_codeExpr (wpAny_mono ((hbody s1 HZ (hr.deeper _)).run [] _ _ HZ Q J ht) ?_ fun e s' hq => hq)
    rintro v s' ⟨w', H', J', rv, q⟩
    exact ⟨w', H', J'.os, J'.bare, J'.base, J'.hok, rv, q⟩
  refine wpAny_call (codeAny_mono run ?_)
  rintro (e | fl) s' hq
  · refine passAt tk σZ pinsZ HZ s1 e s' I1 ?_
    obtain ⟨a', B, H', cls, d, x1, x2, x3, x4, x5, x6, x7, x8⟩ := hq
    exact ⟨a', B, H', cls, d, x1, x2, x3, x4, x5, x6, x7, hW _ _ _ x8⟩
  · cases fl with
    | ret u => exact I1.after hq
    | next => exact hq.elim
    | brk => exact hq.elim
    | cont => exact hq.elim
end
end Iv
set_option Elab.async false
set_option linter.all false
set_option maxRecDepth 100000
set_option maxHeartbeats 2000000
namespace Iv
open PySem L2 PySem.Spec PyProof.Rows
variable [Cst]
/-- the word that is told of a call: of what is raised, or the last one -/
def mSaid (m : M Rs) (r : XT) (w : Str → Option Dt) (lt : Dt) : M Rs := fun τ => match r τ with
  | some (c, τ') => (w c).map fun x => (.v x, τ')
  | none => (m τ).map fun p => (.v lt, p.2)
/-- the slots at a suite's start -/
def tauE (n i : Nat) (a : Addr) : Tau := (List.replicate n Sl.un).set i (.ad a)
theorem tauE_get {n i k : Nat} {a : Addr} {s : Sl} (h : (tauE n i a)[k]? = some s) : s = .un ∨ (k = i ∧ s = .ad a) := by
  unfold tauE at h
  by_cases e : i = k
  · subst e
    have hi : i < (List.replicate n Sl.un).length := by
      have := (List.getElem?_eq_some_iff.mp h).1
      rwa [List.length_set] at this
    rw [List.getElem?_set_self hi] at h
    exact .inr ⟨rfl, (Option.some.inj h).symm⟩
  · rw [List.getElem?_set_ne e] at h
    have := (List.getElem?_eq_some_iff.mp h)
    obtain ⟨h1, h2⟩ := this
    rw [List.getElem_replicate] at h2
    exact .inl h2.symm
theorem rep_tauE {K : PySem.W.Frag} {n i : Nat} {a : Addr} {σ : L2.St} {H : Hp} (hl : σ.length = n) (hi : i < n) (tb : Tabs H) : SRep K (fun _ => False) (tauE n i a) (σ.set i (some (.ref a))) H := by
  refine ⟨by unfold tauE; simp [hl], fun _ z => z.elim, tb, fun k d q => ?_, fun k io d q => ?_, fun k io d q => ?_, fun k b q => ?_, fun k l s t b q1 q2 q3 q4 q5 q6 => ?_⟩
  · rcases tauE_get q with z | ⟨_, z⟩ <;> cases z
  · rcases tauE_get q with z | ⟨_, z⟩ <;> cases z
  · rcases tauE_get q with z | ⟨_, z⟩ <;> cases z
  · rcases tauE_get q with z | ⟨rfl, z⟩
    · cases z
    · cases z
      rw [List.getElem?_set_self (by omega)]
  · rcases tauE_get q1 with z | ⟨_, z⟩ <;> (rw [z] at q3; cases q3)
theorem om_tauE {n i : Nat} {a b : Addr} {σ : L2.St} : ¬ Om (tauE n i a) σ b := by
  rintro ⟨k, io, d, e, _⟩
  rcases tauE_get e with z | ⟨_, z⟩ <;> cases z
theorem os_tauE {n i : Nat} {a b : Addr} {σ : L2.St} : ¬ Os (tauE n i a) σ b := by
  rintro ⟨k, s, e, o, _⟩
  rcases tauE_get e with z | ⟨_, z⟩ <;> (rw [z] at o; cases o)
theorem se_said {X : Cx} {k : Nat} {sd ve err cn : Str} {Ng : List Str} {st : Stmt} {i : Nat} {b0 : Stmt} {suite : List Stmt} {cs : List Str} {isB : Str → Str → Bool} {ms : Addr → Str → MS} {w : Str → Option Dt} {c P : Addr} {params : Arguments} {body : Expr} {scope : Scope} {m : M Rs} {r : XT} {lt : Dt} {el : Expr}
    {p p1 p2 p3 p4 p5 p6 p8 pos lpos : Pos} (Dd : DefG X.K X.mg sd [cn] st) (Sg : FnScope Ng [cn] (defScope st))
    (hst : defBody st = [.Try [.Expr (.Call (.Name cn p1) [] [] p2) p3] [.ExceptHandler (some (.Name ve p4)) (some err) (b0 :: suite) p5] [] [] p6, .Return (some el) p8])
    (h0 : Ng[0]? = some cn) (hvc : Vis (defScope st) cn) (hi : Ng[i]? = some err) (hie : (defScope st).names.lookup err = some .local) (hve : ve ∈ cs) (F : ErrF X.K X.mg cs isB) (hgv : (defScope st).names.lookup ve = some .globalImplicit) (hdv : (ve == ("__debug__" : Str)) = false)
    (hel : ∃ v, (∀ Z : Cx, PE Z el (tC v)) ∧ ∀ K O H, Rp K O H v lt)
    (hsu : ∀ (g : Addr) (cdv : Value) (A : Around) (outer : List Env) (s : Shared) (H : Hp) (E : XK), Rm (cxOf CX0 X.prog X.w X.K X.mg X.base Ng sd (defScope st) g cdv A outer s H E).nox (k + 1) → ∀ cc ∈ cs, ∀ (D a : Addr) (oe : Obj) (pn : List (Addr × Obj)), X.mg cc = some (.ref D) → Zc (.ref D) none oe → (∃ vs, oe.data = .fields vs) →
      SB ((cxOf CX0 X.prog X.w X.K X.mg X.base Ng sd (defScope st) g cdv A outer s H E).nox.suite a ((a, oe) :: pn)) (b0 :: suite) (ms a cc))
    (hw : ∀ cc x, w cc = some x → cc ∈ cs ∧ isB cc ve = true ∧ pureD x = true ∧ ∀ a, ∃ τ', ms a cc (tauE Ng.length i a) = some (.rt x false, τ'))
    (TB : LamX.TabB X.base X.mg c P) (hcode : X.env.code = .ref c) (hP0 : ∃ ps, X.H_0 P = some (.tbl ps)) (hq : X.env.qual ++ "<lambda>" = Cst.lamQ) (R : Rm X (k + 2)) (L : LamX.LamS X.env.scope scope) (hdef : defaultsOf params X.env = ([], []))
    (hbind : ∀ (q : Str) (cl : List (Str × Addr)) (pm cv ctv : Value), bindArgs (PySem.W.kla_fn "<lambda>" q params body scope cl pm cv ctv) ⟨[], []⟩ = pure [])
    (hm : ∀ (A : Around) (outer : List Env) (s : Shared) (H : Hp) (E : XK) (f c' : Addr), Rm (LamX.lamCx X A outer s H E scope f c') k → SE (LamX.lamCx X A outer s H E scope f c').nox body m)
    (hr : ∀ (A : Around) (outer : List Env) (s : Shared) (H : Hp) (E : XK) (f c' : Addr), Rm (LamX.lamCx X A outer s H E scope f c') k → EX (LamX.lamCx X A outer s H E scope f c') body r)
    (hg : Gl X sd) (hdb : (sd == ("__debug__" : Str)) = false := by decide) (hdc : (cn == ("__debug__" : Str)) = false := by decide) (hcc : (cn == ("__classdict__" : Str)) = false := by decide) :
    SE X (.Call (.Name sd p) [.Lambda params body scope lpos] [] pos) (mSaid m r w lt) := by
  refine ⟨⟨fun pins s σ H Q I q => ?_⟩⟩
  obtain ⟨E, τ, rr, τf, S, hmm, kq⟩ := q
  obtain ⟨g, fdg, Fg, hmg, hb⟩ := Dd.ex
  obtain ⟨oc, od, kV, doc, pm, an, cdv, ct, osl, rfl, lk, hcd⟩ := Fg.ex
  obtain ⟨ps0, hP0⟩ := hP0
  obtain ⟨more, hP⟩ := I.base.tbls P ps0 hP0
  refine wpAny_Call_Name_kw (ld_glob I hg hmg ?_ hdb)
  refine PySem.W.callWith_K (h₀ := X.base) I.ok.mod.kin Fg.kp ?_ (by rfl) (by rfl)
  show wpAny _ _ (spliced ((false, eval (.Lambda params body scope lpos) X.env) :: backTo pos (starEach [] X.env))) _ _ s
  refine Calls.spliced_cons (lam_new I TB hcode hP S.tb hq hdef (L.has I.ok) ?_)
  intro f c' pm' ctv H1 s' I1 ex hf hfn hfr hco
  refine Calls.spliced_nil ⟨I1.kIn, ?_⟩
  have S1 := S.grow ex
  have B1 : PostB X.K E τ σ H τ H1 := ⟨ex.wider fun _ z => z.elim, .refl, S1⟩
  rw [← hq] at hf hco
  have rc : codeAny (model X.prog X.w) X.A (.call (.ref g) ⟨[.ref f], []⟩) (CR CX0 X.stack X.prog X.w H1 s' Q E0) s' := by
    refine LamX.run_ofS (N := Ng) (ps := [cn]) (us := [.ref f]) (vs := [.ref f]) lk hcd Sg R.hr I1.env0 (hb s' [.ref f] I1.kIn rfl) (.cons rfl .nil) rfl fun hr' => ?_
    have RZ : Rm (cxOf CX0 X.prog X.w X.K X.mg X.base Ng sd (defScope st) g cdv X.A X.stack s' H1 E0).nox (k + 1) := ⟨R.hG, hr'⟩
    obtain ⟨v1, hpe, hrv⟩ := hel
    obtain ⟨C, hC, _⟩ := F.cls ve hve
    have hNl : 1 ≤ Ng.length := by
      have := (List.getElem?_eq_some_iff.mp h0).1
      omega
    have hil : i < Ng.length := (List.getElem?_eq_some_iff.mp hi).1
    let tb : WX → TS := fun W D σZ HZ => ∃ Ech : XK, (∀ cls d H', Ech cls d H' → W cls d σZ H') ∧ σZ[0]? = some (some (.ref f)) ∧ HZ c' = some (LamX.CodeO c' (X.env.qual ++ "<lambda>")) ∧ tLb X.K X.mg m r Ech σ HZ fun _ H' => D.nx σZ H'
    let ts : Addr → Value → Option Addr → TS := fun a cls d D σZ HZ => ∃ cc, cc ∈ cs ∧ X.mg cc = some cls ∧ d = none ∧ sOf X.K (ms a cc) D σZ HZ
    have hbd : ∀ (W : WX) (pn : List (Addr × Obj)) (xe : Value → Shared → Prop), Takes ((cxOf CX0 X.prog X.w X.K X.mg X.base Ng sd (defScope st) g cdv X.A X.stack s' H1 E0).nox.tr pn xe) W → PassesOwn (model X.prog X.w) (cxOf CX0 X.prog X.w X.K X.mg X.base Ng sd (defScope st) g cdv X.A X.stack s' H1 E0).nox.A (cxOf CX0 X.prog X.w X.K X.mg X.base Ng sd (defScope st) g cdv X.A X.stack s' H1 E0).nox.env xe →
        PSs ((cxOf CX0 X.prog X.w X.K X.mg X.base Ng sd (defScope st) g cdv X.A X.stack s' H1 E0).nox.tr pn xe) [.Expr (.Call (.Name cn p1) [] [] p2) p3] (tb W) := by
      intro W pn xe tk _
      refine pss_one ⟨fun pinsZ sZ σZ HZ D IZ h => ?_⟩
      obtain ⟨Ech, hW, h1, h2, h3⟩ := h
      exact (ps_expr (lam_act (i := 0) (Ech := Ech) (Eg := E0) (Ng := Ng) I1 L hf hfn hfr (hbind _ _ _ _ _) tk hr' (fun s2 H2 hr2 => lb_body (hm _ _ _ _ _ _ _ ⟨R.hG, hr2⟩) (hr _ _ _ _ _ _ _ ⟨R.hG, hr2⟩)) h0 hvc hdc hcc)).run pinsZ sZ σZ HZ D IZ ⟨h1, h2, hW, h3⟩
    have hsb : ∀ (a : Addr) (oe : Obj) (cls : Value) (d : Option Addr) (pn : List (Addr × Obj)), Zc cls d oe → (∃ vs, oe.data = .fields vs) → PSs ((cxOf CX0 X.prog X.w X.K X.mg X.base Ng sd (defScope st) g cdv X.A X.stack s' H1 E0).nox.suite a ((a, oe) :: pn)) (b0 :: suite) (ts a cls d) := by
      intro a oe cls d pn hz hfl
      refine ⟨fun pinsZ sZ σZ HZ D IZ h => ?_⟩
      obtain ⟨cc, h1, h2, h3, h4⟩ := h
      obtain ⟨D0, e1, _⟩ := F.cls cc h1
      rw [h2] at e1
      cases e1
      subst h3
      exact (hsu g cdv X.A X.stack s' H1 E0 RZ cc h1 D0 a oe pn h2 hz hfl).pss.run pinsZ sZ σZ HZ D IZ h4
    rw [hst]
    refine ⟨_, (pss_cons (ps_try_as (X := (cxOf CX0 X.prog X.w X.K X.mg X.base Ng sd (defScope st) g cdv X.A X.stack s' H1 E0).nox) rfl rfl Sg.nd hi hie ⟨hgv, hdv, .inl hC⟩ LamX.takes0 hbd hsb) (pss_one (ps_ret (hpe _)))).nox, ?_⟩
    have hlen : (L2.start Ng [V.ref f]).length = Ng.length := by
      unfold L2.start
      simp
      omega
    have hz0 : (L2.start Ng [V.ref f])[0]? = some (some (.ref f)) := by unfold L2.start; simp
    show tb _ _ _ _
    unfold mSaid at hmm
    cases hrt : r τ with
    | none =>
      rw [hrt] at hmm
      simp only [Option.map_eq_some_iff] at hmm
      obtain ⟨⟨ra, τa⟩, hma, hmz⟩ := hmm
      cases hmz
      refine ⟨fun _ _ _ => False, fun _ _ _ z => z.elim, hz0, hco, .inl ⟨E, τ, ra, _, S1, hma, fun v H' Pp => ?_⟩⟩
      show Q v1 H'
      exact kq v1 H' (B1.comp Pp.b |>.post (post_step Pp.srep .refl (r := .v lt) (hrv _ _ _)))
    | some q =>
      obtain ⟨cc, τa⟩ := q
      rw [hrt] at hmm
      simp only [Option.map_eq_some_iff] at hmm
      obtain ⟨x, hwx, hmz⟩ := hmm
      cases hmz
      obtain ⟨hcc1, hB, hpx, hgo⟩ := hw cc x hwx
      obtain ⟨D0, hD0, _⟩ := F.cls cc hcc1
      refine ⟨fun cls d H' => X.mg cc = some cls ∧ d = none ∧ PostB X.K E τ σ H1 _ H', fun cls d H' z => ?_, hz0, hco, .inr ⟨E, τ, cc, _, _, S1, hrt, hD0, fun H' Pp => ⟨hD0, rfl, Pp⟩⟩⟩
      obtain ⟨z1, z2, z3⟩ := z
      rw [hD0] at z1
      cases z1
      refine ⟨true, by rw [← hB]; exact F.exm cc hcc1 ve hve D0 C hD0 hC, fun _ a na => ?_, fun z => nomatch z⟩
      obtain ⟨τ2, hgo⟩ := hgo a
      refine ⟨cc, hcc1, hD0, z2, fun _ => False, _, _, τ2, rep_tauE hlen hil z3.rep.tb, hgo, ?_⟩
      intro σ2 H2 v Q2 rv
      show Q v H2
      have e2 : Ext nO H' H2 := Q2.ext.wider fun b z => (om_tauE z).elim
      obtain ⟨S2, rp⟩ := rv
      exact kq v H2 (((B1.comp z3).comp ⟨e2.wider fun _ z => z.elim, .refl, z3.rep.grow e2⟩).post (post_step (z3.rep.grow e2) .refl (r := .v x) (pure_any.1 rp hpx _)))
  refine wpAny_call (codeAny_mono rc fun res s2 hq2 => ?_)
  cases res with
  | error e => exact (show False from hq2).elim
  | ok fl =>
    cases fl with
    | ret u => exact I1.after hq2
    | next => exact hq2.elim
    | brk => exact hq2.elim
    | cont => exact hq2.elim
end Iv
set_option Elab.async false
set_option linter.all false
set_option maxRecDepth 100000
set_option maxHeartbeats 2000000
namespace Iv
open PySem L2 PySem.Spec PyProof.Rows
variable [Cst]
/-! ### the law's def, of which the code object and its table are known -/
structure FunC (K : PySem.W.Frag) (x : Str) (st : Stmt) (f : Addr) (fd : FuncData) (c : Addr) : Prop where
  ex : ∃ (oc : Value) (od : Option Addr) (kV doc pm : Value) (an : Option Addr) (ct : Value) (osl : Array (Option Value)),
    fd = PySem.W.fnOf x x (defArgs st) (defBody st) (defScope st) .none kV doc pm an (.ref c) ct ∧ K.lookup f = some ⟨oc, od, .func fd, osl⟩ ∧ PySem.W.codeIn K (.ref c) x = true
  kp : PySem.W.keepIn K (.ref f) = true
theorem funC_mk {K : PySem.W.Frag} {x : Str} {st : Stmt} {f c : Addr} {oc : Value} {od an : Option Addr} {osl : Array (Option Value)} {kV doc pm ct : Value} (l : K.lookup f = some ⟨oc, od, .func (PySem.W.fnOf x x (defArgs st) (defBody st) (defScope st) .none kV doc pm an (.ref c) ct), osl⟩)
    (h : PySem.W.codeIn K (.ref c) x = true) (k : PySem.W.keepIn K (.ref f) = true) : FunC K x st f (PySem.W.fnOf x x (defArgs st) (defBody st) (defScope st) .none kV doc pm an (.ref c) ct) c := ⟨⟨oc, od, kV, doc, pm, an, ct, osl, rfl, l, h⟩, k⟩
def spGT (K : PySem.W.Frag) (np : Nat) (g : M (Dt × Bool)) (P : Addr) : Sp := fun vs H Q E => (∃ ps, H P = some (.tbl ps)) ∧ spG K np g vs H Q E
section
variable {P : Program} {w : World} {K : PySem.W.Frag} {mg : Str → Option Value} {base : Heap} {k : Nat} {f c Pt : Addr} {fd : FuncData} {x : Str} {st : Stmt} {N ps : List Str} {mb : MS}
theorem fnG_ofT (F : FunC K x st f fd c) (S : FnScope N ps (defScope st))
    (hbody : ∀ (A : Around) (outer : List Env) (s : Shared) (H : Hp) (E : XK), (∃ qs, H Pt = some (.tbl qs)) → Rm (cxOf CX0 P w K mg base N x (defScope st) f (.ref c) A outer s H E).nox k → SB (cxOf CX0 P w K mg base N x (defScope st) f (.ref c) A outer s H E).nox (defBody st) mb) :
    FnG P w K mg base CX0 (k + 1) f fd ps (spGT K ps.length (gFn ps.length N.length mb) Pt) := by
  obtain ⟨oc, od, kV, doc, pm, an, ct, osl, rfl, lk, hcd⟩ := F.ex
  have len : ∀ vs H Q E, spGT K ps.length (gFn ps.length N.length mb) Pt vs H Q E → vs.length = ps.length := fun vs H Q E h => h.2.1
  refine ⟨len, ?_⟩
  intro A outer s H args us vs Q E hG hr e0 hb r hsp
  have kin : K.In s.heap := e0.mod.kin.keeps fun b o e => (e0.bs b o e).1
  have nolim : s.heap.NoLimit := e0.mod.nolimit.keeps fun b o e => (e0.bs b o e).1
  have hl := len _ _ _ _ hsp
  have kinds : ∀ y ∈ ps.zip us, (defScope st).names.lookup y.1 = some .local ∨ ((defScope st).names.lookup y.1 = some .cell ∧ ((cellsFrom (s.heap.objs.size + 1) (defScope st).names []).lookup y.1).isSome = true) := by
    rintro ⟨n, v⟩ hy
    exact (S.par n (List.of_mem_zip hy).1).imp id fun q => ⟨q, PySem.W.cellsFrom_some _ _ _ (.inl q)⟩
  refine codeAny_call_function hr.depth (kin _ _ lk) rfl S.co S.gen rfl (PySem.W.codeRec_of kin hcd) (hb _ _ _ _ (wpAny_newFunctionEnv_cells S.kind kinds fun env he s1 y => ?_))
  subst he
  have body := (hbody A outer s H E hsp.1 ⟨hG, hr.deeper _⟩).pss.nox
  refine ⟨nolim.keeps y.toInCall.keep, codeAny_func (wpAny_mono (body.run [] s1 (L2.start N vs) H _ (inv_start S hr.hd e0 hl r y) (gFn_read (Q := Q) hsp.2)) (fun fl s' hs => ?_) fun e s' hs => hs)⟩
  cases fl with
  | next => obtain ⟨σ', H', J, q⟩ := hs; exact ⟨V.non, H', J.os, J.bare, J.base, J.hok, rfl, q⟩
  | ret u => obtain ⟨v, σ', H', J, rv, q⟩ := hs; exact ⟨v, H', J.os, J.bare, J.base, J.hok, rv, q⟩
  | brk => obtain ⟨_, _, _, q⟩ := hs; exact q.elim
  | cont => obtain ⟨_, _, _, q⟩ := hs; exact q.elim
end
/-! ### the claim's call of the law, the table told -/
theorem law_callT {P : Program} {w : World} {K : PySem.W.Frag} {mg mb : Str → Option Value} {k : Nat} {fa a c Pt : Addr} {x : Str} {sp : Sp} {s : Shared} {vs : List Value} {ns : List Int} (kin : K.In s.heap) (gl : s.heap.Ns mainGlobals mg) (bl : s.heap.Ns builtinsNs mb)
    (bb : ∀ x : Str, x ≠ "__name__" → mb x = bootBuiltins x) (nl : s.heap.NoLimit) (ng : s.gens = #[]) (hT : s.heap.get? Pt = some { cls := .none, data := .fields #[] }) (nT : K.lookup Pt = none) (Cd : PySem.W.CodeHd s.heap c Pt)
    (hbm : ∃ (bm : Addr) (ob : Obj), mg "__builtins__" = some (.ref bm) ∧ bm ≠ builtinsNs ∧ s.heap.get? bm = some ob ∧ ob.cls = .type "module" ∧ ob.dict = some builtinsNs ∧ ob.data = .plain)
    (hs : s.heap.get? a = some { cls := .type "list", data := .seq vs.toArray }) (ia : IntsAre vs ns) (hz : ns.length ≤ sizeLine) (room : Room k callerA)
    (F : ∀ base : Heap, K.In base → base.Ns mainGlobals mg → LamX.TabB base mg c Pt → ∃ fd : FuncData, FnG P w K mg base CX0 k fa fd [x] sp ∧ Binds K fd [x] [])
    (want : ∀ H : Hp, H Pt = some (.tbl #[]) → (∀ b qs, H b = some (.tbl qs) → qs = #[]) → Ls K H a (ns.map V.int) → sp [.ref a] H (fun v _ => v = .bl true) E0) :
    codeAny (model P w) callerA (.call (.ref fa) ⟨[.ref a], []⟩) (fun r s' => r = .ok (.ret (.bool true)) ∧ OldK s.heap s'.heap ∧ s'.os = s.os ∧ AllBare s'.gens) s := by
  have rel := vals_ints ia
  have nlen := ia.length
  have aP : a ≠ Pt := fun z => by
    rw [z, hT] at hs
    cases hs
  have go : ∀ H : Hp, H Pt = some (.tbl #[]) → (∀ b, H b = none ∨ b = Pt ∨ (b = a ∧ H b = some (.frz { cls := .type "list", data := .seq vs.toArray } (.lst (ns.map V.int))))) → Ls K H a (ns.map V.int) → (H a ≠ none → K.lookup a = none) →
      codeAny (model P w) callerA (.call (.ref fa) ⟨[.ref a], []⟩) (fun r s' => r = .ok (.ret (.bool true)) ∧ OldK s.heap s'.heap ∧ s'.os = s.os ∧ AllBare s'.gens) s := by
    intro H hP hO sq noK
    have hok : HOk P w H s.heap := fun b u z => by
      rcases hO b with y | y | ⟨y1, y2⟩
      · rw [z] at y; cases y
      · subst y
        rw [hP] at z
        cases z
        exact hT
      · subst y1
        rw [z] at y2
        cases y2
        exact ⟨hs, by rw [List.length_map]; exact hz, vs, _, rel, hs⟩
    have under : ∀ {b : Addr} {o : Obj}, s.heap.get? b = some o → H b = none → (hidT s.heap H).get? b = some o := fun e n => hidT_get e n
    have clear : ∀ {b : Addr} {o : Obj}, s.heap.get? b = some o → (∀ us n, o.data ≠ .seq us n) → o.data ≠ .fields #[] → H b = none := fun {b o} e h1 h2 => by
      rcases hO b with y | y | ⟨y1, y2⟩
      · exact y
      · subst y
        rw [hT] at e
        cases e
        exact absurd rfl h2
      · subst y1
        rw [hs] at e
        cases e
        exact absurd rfl (h1 _ _)
    have nsUnder : ∀ {b : Addr} {m : Str → Option Value}, s.heap.Ns b m → (hidT s.heap H).Ns b m := fun {b m} ⟨o, es, ep, e, d, r⟩ => ⟨o, es, ep, under e (clear e (fun _ _ z => by rw [d] at z; cases z) fun z => by rw [d] at z; cases z), d, r⟩
    have kUnder : K.In (hidT s.heap H) := fun b o e => under (kin b o e) (by
      rcases hO b with y | y | ⟨y1, y2⟩
      · exact y
      · subst y; rw [nT] at e; cases e
      · subst y1; rw [noK (by rw [y2]; simp)] at e; cases e)
    have tabB : LamX.TabB (hidT s.heap H) mg c Pt := by
      refine ⟨?_, ?_, fun z => ?_⟩
      · obtain ⟨o, us, file, tf, flags, tg, inF, text, tt, e1, r1, r2, r3⟩ := Cd
        refine ⟨o, us, file, tf, flags, tg, inF, text, tt, under e1 (clear e1 (fun _ _ z => by rw [r2] at z; cases z) fun z => ?_), r1, r2, r3⟩
        rw [r2] at z
        cases z
        have := r3.1
        simp at this
      · obtain ⟨bm, ob, b1, b2, b3, b4, b5, b6⟩ := hbm
        refine ⟨bm, ob, b1, b2, fun q => ?_, fun q => ?_, under b3 (clear b3 (fun _ _ z => by rw [b6] at z; cases z) fun z => by rw [b6] at z; cases z), b4, b5, b6⟩
        · obtain ⟨o, es, ep, e, hd, _⟩ := gl
          rw [q, e] at b3
          cases b3
          rw [hd] at b6
          cases b6
        · rw [q, hT] at b3
          cases b3
          cases b6
      · obtain ⟨o, es, ep, e, hd, _⟩ := gl
        rw [z, hT] at e
        cases e
        cases hd
    obtain ⟨mc, n1, n2⟩ := nl
    have env : Env0 P w K mg (hidT s.heap H) callerA [] s H :=
      ⟨rfl, ⟨kUnder, nsUnder gl, ⟨mb, nsUnder bl, bb⟩, ⟨mc, nsUnder n1, n2⟩⟩, fun b o e => of_hidT e, Nat.le_of_eq (hidT_size _ _), trivial, (fun b hb => by cases (show b ∈ ([] : List Addr) from hb)), hok, .of_eq ng⟩
    obtain ⟨fd, F1, hb⟩ := F _ kUnder (nsUnder gl) tabB
    have hE : ∀ b qs, H b = some (.tbl qs) → qs = #[] := fun b qs z => by
      rcases hO b with y | y | ⟨y1, y2⟩
      · rw [z] at y; cases y
      · subst y; rw [hP] at z; cases z; rfl
      · rw [z] at y2; cases y2
    refine codeAny_mono (F1.run callerA [] s H ⟨[.ref a], []⟩ [.ref a] [.ref a] _ _ rfl room env (hb s [.ref a] kin rfl) (.cons rfl .nil) (want H hP hE sq)) ?_
    rintro (e | fl) s' hr
    · exact hr.elim
    · cases fl with
      | next => exact hr.elim
      | brk => exact hr.elim
      | cont => exact hr.elim
      | ret u =>
        obtain ⟨v, H', os, bare, un, hok', rv, rfl⟩ := hr
        obtain rfl : u = Value.bool true := rv
        have same : ∀ b o, b ≠ Pt → s.heap.get? b = some o → s'.heap.get? b = some o := fun b o nb e => by
          rcases hO b with y | y | ⟨y1, y2⟩
          · exact un.keep b o e y (fun q => by cases (show b ∈ ([] : List Addr) from q)) (by simp)
          · exact absurd y nb
          · obtain ⟨e1, _⟩ := hok b _ y2
            obtain ⟨e2, _⟩ := hok' b _ (un.frzs b _ _ y2)
            rw [e] at e1
            cases e1
            exact e2
        obtain ⟨more, hm⟩ := un.tbls Pt #[] hP
        have hm' : s'.heap.get? Pt = some { cls := .none, data := .fields (#[] ++ more) } := hok' Pt _ hm
        refine ⟨rfl, ⟨fun b o e => ?_, fun b o e => ?_⟩, os, bare⟩
        · by_cases hb : b = Pt
          · subst hb
            rw [hT] at e
            cases e
            exact .inr (.inl ⟨(Cd.tab hT).isCodeTable, rfl, #[], more, rfl, hm'⟩)
          · exact .inl (same b o hb e)
        · by_cases hb : b = Pt
          · subst hb; exact ⟨_, hm'⟩
          · exact ⟨o, same b o hb e⟩
  cases known : K.lookup a with
  | some o =>
    have e := kin a o known
    rw [hs] at e
    cases e
    refine go (fun b => if b = Pt then some (.tbl #[]) else none) (if_pos rfl) (fun b => ?_) (.inr ⟨vs.toArray, _, known, by rw [List.size_toArray, nlen]; exact hz, by simpa using rel⟩) fun z => absurd (if_neg aP) z
    by_cases hb : b = Pt
    · exact .inr (.inl hb)
    · exact .inl (if_neg hb)
  | none =>
    refine go (fun b => if b = Pt then some (.tbl #[]) else if b = a then some (.frz { cls := .type "list", data := .seq vs.toArray } (.lst (ns.map V.int))) else none) (if_pos rfl) (fun b => ?_) (.inl (.inr ⟨{ cls := .type "list", data := .seq vs.toArray }, ?_⟩)) fun _ => known
    · by_cases hb : b = Pt
      · exact .inr (.inl hb)
      · by_cases hb2 : b = a
        · exact .inr (.inr ⟨hb2, (if_neg hb).trans (if_pos hb2)⟩)
        · exact .inl ((if_neg hb).trans (if_neg hb2))
    · exact (if_neg aP).trans (if_pos rfl)
/-- the goal that k_head leaves, the law's lambdas told -/
theorem walk_GT {l : PySem.W.OpenLaw} {n k : Nat} {q : Program} {loose : List Str} {XP : (Str → Option Value) → Heap → Prop} {YP : World → Heap → Prop} {d : PySem.DefRec} {K : PySem.Params → PySem.W.Frag} {sp : World → Sp} {x : Str} {c Pt : Addr}
    (hn : l.most = some n) (hn2 : n ≤ sizeLine) (hdf : d.params.defaults = []) (room : Room k callerA) (hY : ∀ (w : World) (h : Heap), YP w h → (K w.params).In h)
    (hrec : (recsOf q).find? (fun e => e.name == d.name) = some d) (htab : ∀ w : World, PySem.W.tabIn (K w.params) d.name = some (c, Pt)) (nT : ∀ w : World, (K w.params).lookup Pt = none)
    (F : ∀ (w : World) (mg : Str → Option Value) (fa : Addr) (h : Heap), (K w.params).In h → h.Ns mainGlobals mg → mg d.name = some (.ref fa) →
      ∀ base : Heap, (K w.params).In base → base.Ns mainGlobals mg → LamX.TabB base mg c Pt → ∃ fd : FuncData, FnG l.prog w (K w.params) mg base CX0 k fa fd [x] (sp w) ∧ Binds (K w.params) fd [x] [])
    (want : ∀ (w : World) (H : Hp) (a : Addr) (ns : List Int), ns.length ≤ n → H Pt = some (.tbl #[]) → (∀ b qs, H b = some (.tbl qs) → qs = #[]) → Ls (K w.params) H a (ns.map V.int) → sp w [.ref a] H (fun v _ => v = .bl true) E0) :
    PySem.W.WalkO q loose XP YP l.row.toRowW d [] (fun f vs => PySem.call f vs) := by
  refine Att.attach_call hn hdf fun w s₀ s₁ mg mb fa o pm cd doc a vs ns G Y ho hd hcd hmg hobj hints hlen hg => ?_
  have KX := hY w _ Y
  obtain ⟨hC, hPt⟩ := PySem.W.tab_of G.T KX hrec (htab w)
  exact law_callT KX G.T.g G.T.b G.T.builtins G.T.nolimit hg hPt (nT w) hC G.T.bmain hobj hints (Nat.le_trans hlen hn2) room (F w mg fa _ KX G.T.g hmg) fun H h1 h2 hS => want w H a ns hlen h1 h2 hS
theorem tabs_empty {H : Hp} (h : ∀ b qs, H b = some (.tbl qs) → qs = #[]) : Tabs H := by
  intro P ps hP
  have := h P ps hP
  subst this
  exact ⟨trivial, fun pos cv hc => by
    have z : codeAmong pos [] = some cv := hc
    simp [codeAmong] at z⟩
end Iv
set_option Elab.async false
set_option linter.all false
set_option maxRecDepth 100000
set_option maxHeartbeats 2000000
namespace Iv
open PySem L2 PySem.Spec PyProof.Rows
variable [Cst]
/-! ### sorted, min, max, <, of things of any depth -/
open PySem.W (EachIs dataLt dataLe alike AllAlike Sortable minD maxD AlikeAll)
def alikeL (ds : List Dt) : Bool := ds.all fun d => ds.all fun e => alike d e
theorem alikeL_all {ds : List Dt} (h : alikeL ds = true) : AllAlike ds := fun d hd e he => List.all_eq_true.mp (List.all_eq_true.mp h d hd) e he
def tupNE : Dt → Bool
  | .tuple (_ :: _) => true
  | _ => false
def noTN : Dt → Bool
  | .none => false
  | .tuple _ => false
  | _ => true
def sortB (ds : List Dt) : Bool := ds.all tupNE || ds.all noTN
theorem sortB_ok {ds : List Dt} (h : sortB ds = true) : Sortable ds := by
  unfold sortB at h
  rcases Bool.or_eq_true_iff.mp h with h | h
  · refine .inl fun d hd => ?_
    have := List.all_eq_true.mp h d hd
    cases d with
    | tuple xs => cases xs with
      | nil => cases this
      | cons x r => exact ⟨x, r, rfl⟩
    | _ => cases this
  · refine .inr fun d hd => ?_
    have := List.all_eq_true.mp h d hd
    cases d with
    | tuple xs => cases this
    | none => cases this
    | _ => exact ⟨(fun z => nomatch z), fun _ z => nomatch z⟩
def okSort (ds : List Dt) : Bool := alikeL ds && sortB ds && SeqAt.shaped (.list ds)
def sortD (ds : List Dt) : List Dt := ds.mergeSort (dataLe false id)
def fSorted : List Dt → Option Rs
  | [.list ds] => if okSort ds then some (.nw (.list (sortD ds))) else none
  | [.tuple ds] => if okSort ds then some (.nw (.list (sortD ds))) else none
  | _ => none
section
variable {prog : Program} {w : World} {A : Around} {E : Value → Shared → Prop} {s : Shared}
/-- a tuple's things, collected -/
theorem collect_tup {l : Addr} {vs : List Value} {Q : List Value → Shared → Prop} (hl : s.heap.IsTuple l vs.toArray)
    (h : Q vs { s with heap := (s.heap.push (seqObj "list" #[] 0)).update s.heap.objs.size (Obj.mapSeq (· ++ vs.toArray)) }) (hsz : vs.length ≤ sizeLine) : wpAny (model prog w) A (collect (.ref l)) Q E s := by
  obtain ⟨o, ho, hc, n, hd⟩ := id hl
  unfold collect
  refine wpAny_bind (wpAny_runValue (codeAny_builtin entry_proto_collect' ?_))
  show wpAny _ _ (do again (.builtin "list.__iadd__" ⟨[← newList [], .ref l], []⟩)) _ _ s
  refine wpAny_bind (wpAny_newList (wpAny_pure ⟨Code.quiet_builtin _ (by decide +kernel), codeAny_builtin entry_list_iadd' ?_⟩))
  show wpAny _ _ (Builtin.List.listExtendWith (.ref s.heap.objs.size) (.ref l) (.ref s.heap.objs.size)) _ _ { s with heap := s.heap.push (seqObj "list" #[] 0) }
  have ho2 : (s.heap.push (seqObj "list" #[] 0)).get? l = some o := Heap.get?_push_of_some _ ho
  have hnew : (s.heap.push (seqObj "list" #[] 0)).get? s.heap.objs.size = some (seqObj "list" #[] 0) := Heap.get?_push_size _ rfl
  unfold Builtin.List.listExtendWith
  refine wpAny_bind (wpAny_typeOf (T := "tuple") ⟨o, ho2, hc⟩ ?_)
  have ht : (Value.type "tuple" == Value.type "tuple") = true := by rfl
  rw [if_pos (by rw [ht]; simp)]
  refine wpAny_bind (listItems_at ho2 hd (wpAny_bind (listItems_at (xs := #[]) (n := 0) hnew rfl ?_)))
  rw [if_neg (by simp)]
  have hfit : ((#[] : Array Value) ++ vs.toArray).size ≤ sizeLine + 1 := by simp only [Array.size_append, List.size_toArray, List.length_nil]; omega
  refine wpAny_bind (listUpdate_at (xs := #[]) (n := 0) hnew rfl ?_ (Nat.zero_le _) hfit)
  refine wpAny_pure ?_
  have hend : ((#[] : Array Value) ++ vs.toArray).toList = vs := by simp
  show wpAny (model prog w) A (do
      match (← load s.heap.objs.size).data with
      | .seq ys _ => pure ys.toList
      | _ => unsupported "internal:collect") Q E { s with heap := (s.heap.push (seqObj "list" #[] 0)).update s.heap.objs.size (Obj.mapSeq (· ++ vs.toArray)) }
  refine wpAny_bind (wpAny_load (get?_update_seq hnew _) ?_)
  show wpAny _ _ (pure ((#[] : Array Value) ++ vs.toArray).toList) Q E _
  rw [hend]
  exact wpAny_pure h
open PySem.W in
/-- sorted(t), t a tuple -/
theorem sorted_tup {κ : PyProof.Rows.KeyKind} {l : Addr} {vs : List Value} {Q : Value → Shared → Prop} (hl : s.heap.IsTuple l vs.toArray) (S : SortsAt prog w A.in1.in1 { s with heap := sortingHeap (copyHeap s.heap vs) (s.heap.objs.size + 1) vs } κ vs) (hL : vs.length ≤ sizeLine)
    (h : Q (.ref (s.heap.objs.size + 1)) { s with heap := sortedAll s.heap vs (sortVals κ false vs vs).toArray }) : wpAny (model prog w) A (call (.builtin "sorted") [.ref l]) Q E s := by
  refine call_function_entry_kw kind_sorted plain_sorted entry_sorted (args_sorted1 _) ?_
  unfold Builtin.«sorted»
  refine wpAny_bind (m := checkCount "sorted" 1 1 _) (wpAny_pure (wpAny_bind (collect_tup hl ?_ hL)))
  refine wpAny_bind (wpAny_newList ?_ hL)
  have size2 : ((s.heap.push (seqObj "list" #[] 0)).update s.heap.objs.size (Obj.mapSeq (· ++ vs.toArray))).objs.size = s.heap.objs.size + 1 := by
    rw [Heap.size_update, size_push']
  show wpAny _ _ _ _ _ { s with heap := copyHeap s.heap vs }
  rw [size2]
  refine wpAny_bind (wpAny_holding (wpAny_call_entry_kw slot_list_sort ⟨_, copyHeap_at s.heap vs, rfl⟩ entry_list_sort ?go (args_list_sort _)))
  case go =>
    show wpAny (model prog w) A.in1.in1 (Builtin.«list.sort» ⟨[.ref (s.heap.objs.size + 1)], []⟩) _ _ _
    refine wpAny_mono (list_sort_vals (s := { s with heap := copyHeap s.heap vs }) (P := fun f s' => f = .done (.ret .none) ∧ Q (.ref (s.heap.objs.size + 1)) s') (copyHeap_at s.heap vs) S hL ⟨rfl, h⟩) ?_ fun _ _ e => e
    rintro f s' ⟨rfl, hq⟩
    exact ⟨_, rfl, wpAny_pure ⟨_, rfl, hq⟩⟩
end
theorem eachIs_vals {R : Value → V × Dt → Prop} {f : V × Dt → Dt} : ∀ {us : List Value} {ps : List (V × Dt)}, EachIs R us ps → (∀ u p, R u p → RelV p.1 u) → Vals (ps.map (·.1)) us
  | _, _, .nil, _ => .nil
  | _, _, .cons a b, h => .cons (h _ _ a) (eachIs_vals (f := f) b h)
theorem rpl_pairs {K : PySem.W.Frag} {O : AS} {H : Hp} : ∀ {ps : List (V × Dt)}, (∀ p ∈ ps, Rp K O H p.1 p.2) → RpL K O H (ps.map (·.1)) (ps.map (·.2))
  | [], _ => .nil
  | p :: ps, h => .cons (h p (List.mem_cons_self ..)) (rpl_pairs fun q hq => h q (List.mem_cons_of_mem _ hq))
theorem pairs_of {K : PySem.W.Frag} {O : AS} {H : Hp} : ∀ {vs : List V} {ds : List Dt}, RpL K O H vs ds → ∃ ps : List (V × Dt), ps.map (·.1) = vs ∧ ps.map (·.2) = ds ∧ ∀ p ∈ ps, Rp K O H p.1 p.2
  | _, _, .nil => ⟨[], rfl, rfl, fun _ h => by cases h⟩
  | _, _, .cons (v := v) (d := d) a b => by
    obtain ⟨ps, h1, h2, h3⟩ := pairs_of b
    refine ⟨(v, d) :: ps, by rw [List.map_cons, h1], by rw [List.map_cons, h2], fun p hp => ?_⟩
    rcases List.mem_cons.mp hp with rfl | hp
    · exact a
    · exact h3 p hp
theorem each_of {R : Value → V × Dt → Prop} : ∀ {us : List Value} {ps : List (V × Dt)}, Vals (ps.map (·.1)) us → (∀ u p, p ∈ ps → RelV p.1 u → R u p) → EachIs R us ps
  | _, [], h, _ => by cases h; exact .nil
  | _, p :: ps, h, hr => by
    rw [List.map_cons] at h
    cases h with
    | cons a b => exact .cons (hr _ _ (List.mem_cons_self ..) a) (each_of b fun u q hq => hr u q (List.mem_cons_of_mem _ hq))
theorem each_mem2 {R : Value → V × Dt → Prop} : ∀ {us : List Value} {ps : List (V × Dt)}, EachIs R us ps → ∀ p ∈ ps, ∃ u, R u p
  | _, _, .nil, p, h => by cases h
  | _, _, .cons a b, p, h => by
    rcases List.mem_cons.mp h with rfl | h
    · exact ⟨_, a⟩
    · exact each_mem2 b p h
theorem canAll_mem {ds : List Dt} (c : PyData.canLayAll0 ds = true) : ∀ d ∈ ds, d.canLay0 = true := by
  induction ds with
  | nil => intro d h; cases h
  | cons e ds ih =>
    simp only [PyData.canLayAll0, Bool.and_eq_true] at c
    intro d h
    rcases List.mem_cons.mp h with rfl | h
    · exact c.1
    · exact ih c.2 d h
theorem depth_mem {ds : List Dt} : ∀ d ∈ ds, d.depth ≤ PyData.depthAll ds := by
  induction ds with
  | nil => intro d h; cases h
  | cons e ds ih =>
    intro d h
    rw [PyData.depthAll]
    rcases List.mem_cons.mp h with rfl | h
    · exact Nat.le_max_left ..
    · exact Nat.le_trans (ih d h) (Nat.le_max_right ..)
section
variable {X : Cx}
theorem sorted_go (hu : X.A.units + 70 < cLine) {pins : List (Addr × Obj)} {σ : L2.St} {H : Hp} {s : Shared} {a : Addr} {ys : List V} {ds : List Dt} {Q : VK} {O : AS} {its : List Value} (I : L2.Inv X pins σ H s) (hz : ys.length ≤ sizeLine) (rv : Vals ys its) (rp : RpL X.K O H ys ds) (ok : okSort ds = true)
    (hs : s.heap.IsList a its.toArray ∨ s.heap.IsTuple a its.toArray) (q : ∀ (zs : List V) p, H p = none → RpL X.K O H zs (sortD ds) → Q (.ref p) (upd H p (.lst zs))) : wpAny (model X.prog X.w) X.A (call (.builtin "sorted") [.ref a]) (EP X pins σ Q) X.xe s := by
  unfold okSort at ok
  simp only [Bool.and_eq_true] at ok
  obtain ⟨⟨hal, hsb⟩, hsh⟩ := ok
  have hca := canAll_of hsh
  have hdp := SeqAt.depth_of_shaped hsh
  rw [PyData.depth] at hdp
  obtain ⟨ps, e1, e2, e3⟩ := pairs_of rp
  subst e1 e2
  have hE : EachIs (fun u p => RelV p.1 u ∧ Rp X.K O H p.1 p.2) its ps := each_of rv fun u p hp r => ⟨r, e3 p hp⟩
  have hR : ∀ {h' : Heap}, (∀ b o, s.heap.get? b = some o → h'.get? b = some o) → EachIs (fun u p => ∃ as, Reads h' u p.2 as) its ps := fun {h'} kp => each_of rv fun u p hp r => by
    obtain ⟨as, z⟩ := Dp.reads I _ _ u (rt_dp (.rp (e3 p hp)) (canAll_mem hca _ (List.mem_map.mpr ⟨p, hp, rfl⟩))) r
    exact ⟨as, PyProof.Rows.Reads.keeps kp z⟩
  have hlen : its.length = ps.length := by
    have := rv.length
    rw [List.length_map] at this
    exact this.symm
  have hLs : its.length ≤ sizeLine := by rw [hlen]; rw [List.length_map] at hz; exact hz
  have hun : ∀ p ∈ ps, X.A.units + 2 + p.2.depth < cLine := fun p hp => by
    have := depth_mem (ds := ps.map fun x => x.2) p.2 (List.mem_map.mpr ⟨p, hp, rfl⟩)
    omega
  have fin : ∀ out, out.length = ps.length → EachIs (fun u p => RelV p.1 u ∧ Rp X.K O H p.1 p.2) out (ps.mergeSort (dataLe false fun p => p.2)) → EP X pins σ Q (.ref (s.heap.objs.size + 1)) { s with heap := sortedAll s.heap its (List.toArray out) } := fun out ho hE2 => by
    obtain ⟨ep, he⟩ := PyProof.Rows.sortedAll_at s.heap its (List.toArray out)
    have hv : Vals ((ps.mergeSort (dataLe false fun p => p.2)).map (·.1)) out := eachIs_vals (f := fun p => p.2) hE2 fun u p z => z.1
    have hsz : ((ps.mergeSort (dataLe false fun p => p.2)).map (·.1)).length ≤ sizeLine := by
      rw [List.length_map, List.length_mergeSort]
      rw [List.length_map] at hz
      exact hz
    have hm : (ps.mergeSort (dataLe false fun p => p.2)).map (·.2) = sortD (ps.map (·.2)) := by
      unfold sortD
      exact List.map_mergeSort (fun _ _ _ _ => rfl)
    have hp2 : RpL X.K O H ((ps.mergeSort (dataLe false fun p => p.2)).map (·.1)) (sortD (ps.map (·.2))) := by
      rw [← hm]
      exact rpl_pairs fun p hp => by
        obtain ⟨u, z⟩ := each_mem2 hE2 p hp
        exact z.2
    exact ⟨.ref _, upd H (s.heap.objs.size + 1) (.lst ((ps.mergeSort (dataLe false fun p => p.2)).map (·.1))), I.laid (t' := s.toks) (fun _ _ => PyProof.Rows.sortedAll_old) (Nat.le_succ _) ⟨hsz, out, ep, hv, he⟩, rfl, q _ _ (I.hok.fresh (Nat.le_succ _)) hp2⟩
  rcases hs with hl | ht
  · exact PySem.W.sorted_data (bs := ps) (enc := fun p => p.2) hl hE (hR fun _ _ e => e) (alikeL_all hal) (sortB_ok hsb) (by rw [← hlen]; exact hLs) hun fin
  · have er2 := hR (h' := PySem.W.sortingHeap (PySem.W.copyHeap s.heap its) (s.heap.objs.size + 1) its) fun _ _ => PySem.W.sorting_copy_old
    refine sorted_tup ht (PySem.W.SortsAt.data (s := { s with heap := PySem.W.sortingHeap (PySem.W.copyHeap s.heap its) (s.heap.objs.size + 1) its }) (PySem.W.each_map (R := fun v d => ∃ as, Reads (PySem.W.sortingHeap (PySem.W.copyHeap s.heap its) (s.heap.objs.size + 1) its) v d as) (fun (p : V × Dt) => p.2) er2) (alikeL_all hal) (sortB_ok hsb) (PySem.W.bound_map (enc := fun (p : V × Dt) => p.2) hun)) hLs ?_
    exact fin _ (by rw [PySem.W.sortVals_length false rfl]; exact hlen) (PySem.W.sortVals_data false hE er2 (alikeL_all hal))
theorem cv_sorted (hu : X.A.units + 70 < cLine) : CallR X (.builtin "sorted") (rCall X.K fSorted) := by
  intro pins s σ H xs us Q I r h
  obtain ⟨O, ds, z, hO, hd, hz, q⟩ := h
  unfold fSorted at hz
  split at hz
  · split at hz
    · rename_i ok
      cases hz
      obtain ⟨v, rfl, h1⟩ := hd.one
      obtain ⟨a, ys, rfl, hs, hr⟩ := rt_list h1
      obtain ⟨its, rv, hl, hn⟩ := I.list hs
      rw [Vals.ref1 r]
      exact sorted_go hu I hn rv hr ok (.inl hl.isList) fun zs p hp rz => q _ _ (.new hp) (res_list rz hp)
    · cases hz
  · split at hz
    · rename_i ok
      cases hz
      obtain ⟨v, rfl, h1⟩ := hd.one
      obtain ⟨a, ys, rfl, hs, hr⟩ := rt_tuple h1
      obtain ⟨its, rv, hl, hn⟩ := I.tuple hs
      rw [Vals.ref1 r]
      exact sorted_go hu I hn rv hr ok (.inr hl) fun zs p hp rz => q _ _ (.new hp) (res_list rz hp)
    · cases hz
  · cases hz
end
end Iv
set_option Elab.async false
set_option linter.all false
set_option maxRecDepth 100000
set_option maxHeartbeats 2000000
namespace Iv
open PySem L2 PySem.Spec PyProof.Rows
variable [Cst]
open PySem.W (EachIs dataLt dataLe alike AllAlike Sortable minD maxD AlikeAll)
/-! ### min, max of what stands in one thing -/
def isN : Dt → Bool
  | .none => true
  | _ => false
def okMM (ds : List Dt) : Bool := alikeL ds && ds.all (fun d => !isN d) && SeqAt.shaped (.list ds)
theorem okMM_all {ds : List Dt} (h : okMM ds = true) : AlikeAll ds := by
  unfold okMM at h
  simp only [Bool.and_eq_true] at h
  refine ⟨fun x hx y hy => alikeL_all h.1.1 x hx y hy, fun x hx z => ?_⟩
  have := List.all_eq_true.mp h.1.2 x hx
  rw [z] at this
  cases this
def fMin : List Dt → Option Rs
  | [.int i, .int j] => some (.v (.int (if j < i then j else i)))
  | [.list (d :: ds)] => if okMM (d :: ds) then some (.v (minD d ds)) else none
  | [.tuple (d :: ds)] => if okMM (d :: ds) then some (.v (minD d ds)) else none
  | _ => none
def fMax : List Dt → Option Rs
  | [.int i, .int j] => some (.v (.int (if j > i then j else i)))
  | [.list (d :: ds)] => if okMM (d :: ds) then some (.v (maxD d ds)) else none
  | [.tuple (d :: ds)] => if okMM (d :: ds) then some (.v (maxD d ds)) else none
  | _ => none
theorem minD_mem (d : Dt) (ds : List Dt) : minD d ds ∈ d :: ds := by
  unfold minD
  suffices H : ∀ (l : List Dt) (a : Dt), l.foldl (fun a y => if dataLt y a = true then y else a) a ∈ a :: l from H ds d
  intro l
  induction l with
  | nil => intro a; exact List.mem_singleton.mpr rfl
  | cons y l ih =>
    intro a
    rw [List.foldl_cons]
    have := ih (if dataLt y a = true then y else a)
    rcases List.mem_cons.mp this with z | z
    · rw [z]
      split
      · exact List.mem_cons_of_mem _ (List.mem_cons_self ..)
      · exact List.mem_cons_self ..
    · exact List.mem_cons_of_mem _ (List.mem_cons_of_mem _ z)
theorem maxD_mem (d : Dt) (ds : List Dt) : maxD d ds ∈ d :: ds := by
  unfold maxD
  suffices H : ∀ (l : List Dt) (a : Dt), l.foldl (fun a y => if dataLt a y = true then y else a) a ∈ a :: l from H ds d
  intro l
  induction l with
  | nil => intro a; exact List.mem_singleton.mpr rfl
  | cons y l ih =>
    intro a
    rw [List.foldl_cons]
    have := ih (if dataLt a y = true then y else a)
    rcases List.mem_cons.mp this with z | z
    · rw [z]
      split
      · exact List.mem_cons_of_mem _ (List.mem_cons_self ..)
      · exact List.mem_cons_self ..
    · exact List.mem_cons_of_mem _ (List.mem_cons_of_mem _ z)
section
variable {X : Cx}
theorem mm_end {pins : List (Addr × Obj)} {σ : L2.St} {H : Hp} {s : Shared} {ys : List V} {d m : Dt} {ds : List Dt} {Q : VK} {O : AS} {its : List Value} {i : Nat} {v : Value} {h' : Heap} {tk : Nat} {bs : List Addr} (I : L2.Inv X pins σ H s) (rv : Vals ys its) (rp : RpL X.K O H ys (d :: ds)) (ok : okMM (d :: ds) = true)
    (hm : m ∈ d :: ds) (hv : its.toArray[i]? = some v) (hr : Reads h' v m bs) (kp : ∀ b o, s.heap.get? b = some o → h'.get? b = some o) (q : ∀ x, Rp X.K O H x m → Q x H) : EP X pins σ Q v { s with heap := h', toks := tk } := by
  unfold okMM at ok
  simp only [Bool.and_eq_true] at ok
  have hca := canAll_of ok.2
  have hv' : its[i]? = some v := by simpa using hv
  obtain ⟨x, hx, rx⟩ : ∃ x, ys[i]? = some x ∧ RelV x v := by
    have hi := (List.getElem?_eq_some_iff.mp hv').1
    have hl := rv.length
    have h1 : ys[i]? = some ys[i] := List.getElem?_eq_getElem (by omega)
    obtain ⟨u, hu, ru⟩ := rv.get h1
    rw [hv'] at hu
    cases hu
    exact ⟨_, h1, ru⟩
  obtain ⟨e, he, re⟩ := rp.getV hx
  have hme : e ∈ d :: ds := List.mem_of_getElem? he
  obtain ⟨as, z⟩ := Dp.reads I _ _ v (rt_dp (.rp re) (canAll_mem hca _ hme)) rx
  have e1 := SeqAt.readOf_eq (canAll_mem hca _ hme) (PyProof.Rows.Reads.keeps kp z)
  have e2 := SeqAt.readOf_eq (canAll_mem hca _ hm) hr
  rw [e1] at e2
  subst e2
  exact ⟨x, H, I.kept kp, rx, q x re⟩
theorem mm_depth {d : Dt} {ds : List Dt} (ok : okMM (d :: ds) = true) : PyData.depthAll (d :: ds) ≤ 64 := by
  unfold okMM at ok
  simp only [Bool.and_eq_true] at ok
  have hdp := SeqAt.depth_of_shaped ok.2
  rw [PyData.depth] at hdp
  omega
theorem mm_reads {pins : List (Addr × Obj)} {σ : L2.St} {H : Hp} {s : Shared} {ys : List V} {ds : List Dt} {O : AS} {its : List Value} (I : L2.Inv X pins σ H s) (rv : Vals ys its) (rp : RpL X.K O H ys ds) (ok : okMM ds = true) : ∃ as, ReadsAll s.heap its.toArray.toList ds as := by
  unfold okMM at ok
  simp only [Bool.and_eq_true] at ok
  exact Dp.readsAll I ds ys its (rpL_dp.2 rp (canAll_of ok.2)) rv
theorem cv_min (hc : X.calm = true) (hu : X.A.units + 70 < cLine) : CallR X (.builtin "min") (rCall X.K fMin) := by
  intro pins s σ H xs us Q I r h
  obtain ⟨O, ds, z, hO, hd, hz, q⟩ := h
  unfold fMin at hz
  split at hz
  · cases hz
    obtain ⟨v, w, rfl, h1, h2⟩ := hd.two
    rw [rt_int h1, rt_int h2] at r
    exact call_min2 hc pins s σ H _ us Q I r ⟨_, _, rfl, q _ H .refl (.int _)⟩
  · split at hz
    · rename_i ok
      cases hz
      obtain ⟨v, rfl, h1⟩ := hd.one
      obtain ⟨a, ys, rfl, hs, hr⟩ := rt_list h1
      obtain ⟨its, rv, hl, hn⟩ := I.list hs
      rw [Vals.ref1 r]
      obtain ⟨as, hra⟩ := mm_reads I rv hr ok
      have hdp := mm_depth ok
      exact PySem.W.min_list_data (I.ok.hd hc) hl.isList hra (okMM_all ok) (by omega) fun i v h' tk bs hv hr' kp => mm_end I rv hr ok (minD_mem _ _) hv hr' kp fun x rx => q x H .refl rx
    · cases hz
  · split at hz
    · rename_i ok
      cases hz
      obtain ⟨v, rfl, h1⟩ := hd.one
      obtain ⟨a, ys, rfl, hs, hr⟩ := rt_tuple h1
      obtain ⟨its, rv, hl, hn⟩ := I.tuple hs
      rw [Vals.ref1 r]
      obtain ⟨as, hra⟩ := mm_reads I rv hr ok
      have hdp := mm_depth ok
      exact PySem.W.min_tuple_data (I.ok.hd hc) hl hra (okMM_all ok) (by omega) fun i v h' tk bs hv hr' kp => mm_end I rv hr ok (minD_mem _ _) hv hr' kp fun x rx => q x H .refl rx
    · cases hz
  · cases hz
theorem cv_max (hc : X.calm = true) (hu : X.A.units + 70 < cLine) : CallR X (.builtin "max") (rCall X.K fMax) := by
  intro pins s σ H xs us Q I r h
  obtain ⟨O, ds, z, hO, hd, hz, q⟩ := h
  unfold fMax at hz
  split at hz
  · cases hz
    obtain ⟨v, w, rfl, h1, h2⟩ := hd.two
    rw [rt_int h1, rt_int h2] at r
    exact call_max2 hc pins s σ H _ us Q I r ⟨_, _, rfl, q _ H .refl (.int _)⟩
  · split at hz
    · rename_i ok
      cases hz
      obtain ⟨v, rfl, h1⟩ := hd.one
      obtain ⟨a, ys, rfl, hs, hr⟩ := rt_list h1
      obtain ⟨its, rv, hl, hn⟩ := I.list hs
      rw [Vals.ref1 r]
      obtain ⟨as, hra⟩ := mm_reads I rv hr ok
      have hdp := mm_depth ok
      exact PySem.W.max_list_data (I.ok.hd hc) hl.isList hra (okMM_all ok) (by omega) fun i v h' tk bs hv hr' kp => mm_end I rv hr ok (maxD_mem _ _) hv hr' kp fun x rx => q x H .refl rx
    · cases hz
  · split at hz
    · rename_i ok
      cases hz
      obtain ⟨v, rfl, h1⟩ := hd.one
      obtain ⟨a, ys, rfl, hs, hr⟩ := rt_tuple h1
      obtain ⟨its, rv, hl, hn⟩ := I.tuple hs
      rw [Vals.ref1 r]
      obtain ⟨as, hra⟩ := mm_reads I rv hr ok
      have hdp := mm_depth ok
      exact PySem.W.max_tuple_data (I.ok.hd hc) hl hra (okMM_all ok) (by omega) fun i v h' tk bs hv hr' kp => mm_end I rv hr ok (maxD_mem _ _) hv hr' kp fun x rx => q x H .refl rx
    · cases hz
  · cases hz
/-! ### is None, is True -/
def dIs : Dt → Dt → Option Rs
  | .bool a, .bool b => some (.v (.bool (decide (a = b))))
  | d, .none => some (.v (.bool (isN d)))
  | _, _ => none
def dIsN : Dt → Dt → Option Rs
  | .bool a, .bool b => some (.v (.bool (!decide (a = b))))
  | d, .none => some (.v (.bool (!isN d)))
  | _, _ => none
theorem rt_isN {K : PySem.W.Frag} {O : AS} {H : Hp} {v : V} {d : Dt} (h : Rt K O H v d) : decide (v = .non) = isN d := by
  cases h with
  | rp h => cases h <;> first | rfl | (exact decide_eq_false fun z => by cases z)
  | lst _ _ => exact decide_eq_false fun z => by cases z
  | dK _ _ => exact decide_eq_false fun z => by cases z
  | dT _ _ => exact decide_eq_false fun z => by cases z
theorem ov_is : OpR X (compareOp .Is) (rBin X.K dIs) := by
  intro pins s σ H x y u v Q I ru rv h
  obtain ⟨O, d, e, z, hO, hd, he, hz, q⟩ := h
  unfold dIs at hz
  split at hz
  · cases hz
    rw [rt_bool hd] at ru
    rw [rt_bool he] at rv
    exact op_is_bl pins s σ H _ _ u v Q I ru rv ⟨_, _, rfl, rfl, q _ H .refl (.bl _)⟩
  · cases hz
    have e1 := rt_none he
    exact op_isN pins s σ H _ _ u v Q I ru rv ⟨e1, by rw [rt_isN hd]; exact q _ H .refl (.bl _)⟩
  · cases hz
theorem ov_isn : OpR X (compareOp .IsNot) (rBin X.K dIsN) := by
  intro pins s σ H x y u v Q I ru rv h
  obtain ⟨O, d, e, z, hO, hd, he, hz, q⟩ := h
  unfold dIsN at hz
  split at hz
  · cases hz
    rw [rt_bool hd] at ru
    rw [rt_bool he] at rv
    exact op_isnot_bl pins s σ H _ _ u v Q I ru rv ⟨_, _, rfl, rfl, q _ H .refl (.bl _)⟩
  · cases hz
    have e1 := rt_none he
    exact op_notN pins s σ H _ _ u v Q I ru rv ⟨e1, by rw [rt_isN hd]; exact q _ H .refl (.bl _)⟩
  · cases hz
end
end Iv
set_option Elab.async false
set_option linter.all false
set_option maxRecDepth 100000
set_option maxHeartbeats 2000000
namespace Iv
open PySem L2 PySem.Spec PyProof.Rows
variable [Cst]
open PySem.W (dataLt alike)
/-! ### <, <=, >, >= of ints and of things of any depth -/
def cmpB (d e : Dt) : Bool := alike d e && !isN d && SeqAt.shaped d && SeqAt.shaped e
def dLtD : Dt → Dt → Option Rs
  | .int i, .int j => some (.v (.bool (decide (i < j))))
  | d, e => if cmpB d e then some (.v (.bool (dataLt d e))) else none
def dGtD : Dt → Dt → Option Rs
  | .int i, .int j => some (.v (.bool (decide (j < i))))
  | d, e => if cmpB d e then some (.v (.bool (dataLt e d))) else none
def dLeD : Dt → Dt → Option Rs
  | .int i, .int j => some (.v (.bool (decide (i ≤ j))))
  | d, e => if cmpB d e then some (.v (.bool (!dataLt e d))) else none
def dGeD : Dt → Dt → Option Rs
  | .int i, .int j => some (.v (.bool (decide (j ≤ i))))
  | d, e => if cmpB d e then some (.v (.bool (!dataLt d e))) else none
section
variable (i j : Int)
@[simp] theorem v_ltD : dLtD (.int i) (.int j) = some (.v (.bool (decide (i < j)))) := (rfl)
@[simp] theorem v_gtD : dGtD (.int i) (.int j) = some (.v (.bool (decide (j < i)))) := (rfl)
@[simp] theorem v_leD : dLeD (.int i) (.int j) = some (.v (.bool (decide (i ≤ j)))) := (rfl)
@[simp] theorem v_geD : dGeD (.int i) (.int j) = some (.v (.bool (decide (j ≤ i)))) := (rfl)
end
section
variable {X : Cx}
theorem cmp_reads {pins : List (Addr × Obj)} {σ : L2.St} {H : Hp} {s : Shared} {x y : V} {u v : Value} {d e : Dt} {O : AS} (I : L2.Inv X pins σ H s) (ru : RelV x u) (rv : RelV y v) (hd : Rt X.K O H x d) (he : Rt X.K O H y e) (ok : cmpB d e = true) (hu : X.A.units + 64 < cLine) :
    (∃ as, Reads s.heap u d as) ∧ (∃ as, Reads s.heap v e as) ∧ alike d e = true ∧ d ≠ .none ∧ X.A.units + min d.depth e.depth < cLine := by
  unfold cmpB at ok
  simp only [Bool.and_eq_true] at ok
  obtain ⟨⟨⟨h1, h2⟩, h3⟩, h4⟩ := ok
  have hdp := SeqAt.depth_of_shaped h3
  refine ⟨Dp.reads I _ _ u (rt_dp hd (SeqAt.canLay_of_shaped h3)) ru, Dp.reads I _ _ v (rt_dp he (SeqAt.canLay_of_shaped h4)) rv, h1, fun z => ?_, by omega⟩
  rw [z] at h2
  cases h2
theorem ov_ltD (hu : X.A.units + 64 < cLine) : OpR X (compareOp .Lt) (rBin X.K dLtD) := by
  intro pins s σ H x y u v Q I ru rv h
  obtain ⟨O, d, e, z, hO, hd, he, hz, q⟩ := h
  unfold dLtD at hz
  split at hz
  · cases hz
    rw [rt_int hd] at ru
    rw [rt_int he] at rv
    exact op_lt pins s σ H _ _ u v Q I ru rv ⟨_, _, rfl, rfl, q _ H .refl (.bl _)⟩
  · split at hz
    · rename_i ok
      cases hz
      obtain ⟨⟨as, r1⟩, ⟨bs, r2⟩, h3, h4, h5⟩ := cmp_reads I ru rv hd he ok hu
      exact PySem.W.lt_data r1 r2 h3 h4 h5 ⟨.bl _, H, I, rfl, q _ H .refl (.bl _)⟩
    · cases hz
theorem ov_gtD (hu : X.A.units + 64 < cLine) : OpR X (compareOp .Gt) (rBin X.K dGtD) := by
  intro pins s σ H x y u v Q I ru rv h
  obtain ⟨O, d, e, z, hO, hd, he, hz, q⟩ := h
  unfold dGtD at hz
  split at hz
  · cases hz
    rw [rt_int hd] at ru
    rw [rt_int he] at rv
    exact op_gt pins s σ H _ _ u v Q I ru rv ⟨_, _, rfl, rfl, q _ H .refl (.bl _)⟩
  · split at hz
    · rename_i ok
      cases hz
      obtain ⟨⟨as, r1⟩, ⟨bs, r2⟩, h3, h4, h5⟩ := cmp_reads I ru rv hd he ok hu
      exact PySem.W.gt_data r1 r2 h3 h4 h5 ⟨.bl _, H, I, rfl, q _ H .refl (.bl _)⟩
    · cases hz
theorem ov_leD (hu : X.A.units + 64 < cLine) : OpR X (compareOp .LtE) (rBin X.K dLeD) := by
  intro pins s σ H x y u v Q I ru rv h
  obtain ⟨O, d, e, z, hO, hd, he, hz, q⟩ := h
  unfold dLeD at hz
  split at hz
  · cases hz
    rw [rt_int hd] at ru
    rw [rt_int he] at rv
    exact op_le pins s σ H _ _ u v Q I ru rv ⟨_, _, rfl, rfl, q _ H .refl (.bl _)⟩
  · split at hz
    · rename_i ok
      cases hz
      obtain ⟨⟨as, r1⟩, ⟨bs, r2⟩, h3, h4, h5⟩ := cmp_reads I ru rv hd he ok hu
      exact PySem.W.le_data r1 r2 h3 h4 h5 ⟨.bl _, H, I, rfl, q _ H .refl (.bl _)⟩
    · cases hz
theorem ov_geD (hu : X.A.units + 64 < cLine) : OpR X (compareOp .GtE) (rBin X.K dGeD) := by
  intro pins s σ H x y u v Q I ru rv h
  obtain ⟨O, d, e, z, hO, hd, he, hz, q⟩ := h
  unfold dGeD at hz
  split at hz
  · cases hz
    rw [rt_int hd] at ru
    rw [rt_int he] at rv
    exact op_ge pins s σ H _ _ u v Q I ru rv ⟨_, _, rfl, rfl, q _ H .refl (.bl _)⟩
  · split at hz
    · rename_i ok
      cases hz
      obtain ⟨⟨as, r1⟩, ⟨bs, r2⟩, h3, h4, h5⟩ := cmp_reads I ru rv hd he ok hu
      exact PySem.W.ge_data r1 r2 h3 h4 h5 ⟨.bl _, H, I, rfl, q _ H .refl (.bl _)⟩
    · cases hz
/-! ### x.extend(y) -/
def fExt : Dt → List Dt → Option (Dt × Dt)
  | .list xs, [.list ys] => if xs.length + ys.length < sizeLine then some (.list (xs ++ ys), .none) else none
  | _, _ => none
theorem mv_ext : MtR X "list.extend" (rMutM X.K fExt) := by
  intro pins s σ H x xs v us Q I rx rs h
  obtain ⟨O, a, c, ds, c', rd, rfl, ha, hc, hl, hf, q⟩ := h
  unfold fExt at hf
  split at hf
  · split at hf
    · rename_i hz
      cases hf
      cases hc with
      | lst r rp =>
        cases hl with
        | cons r1 r2 =>
          cases r2
          have nt : ∀ ys, H a ≠ some (.tup ys) := fun ys z => by rw [r] at z; cases z
          obtain ⟨b, zs, rfl, hb, hrz⟩ := rt_ls (.rp r1)
          obtain ⟨z1, its, n, rv, hl1, e1⟩ := I.lstM r
          obtain ⟨its2, n2, rv2, e2, z2⟩ := hb.obj I
          cases rx
          obtain ⟨u, rfl, ru⟩ := rs.one
          cases ru
          have l1 := rp.length
          have l2 := hrz.length
          have l3 := rv.length
          have l4 := rv2.length
          have hsz : its.toArray.size + its2.toArray.size ≤ sizeLine := by rw [List.size_toArray, List.size_toArray]; omega
          have hlong : ¬ (!its.toArray.isEmpty && Builtin.List.listTooLong (its.toArray.size + its2.toArray.size)) = true := by
            rw [notLongL hsz, Bool.and_false]
            exact Bool.false_ne_true
          refine call_meets F.slot_list_extend ⟨_, e1, rfl⟩ F.entry_list_extend (F.args_list_extend_2 _ _)
            (AutoSeq1.list_extend_list_list_0 a its.toArray n b its2.toArray n2 hlong (by rw [List.size_toArray]; omega) (by omega)) ⟨e1, e2, ?_⟩
          refine ⟨.non, _, I.lset (its' := its ++ its2) r e1 (by simp) (rv.append rv2) ?_, rfl, q _ _ (.lst upd_same (rpL_put (rp.append hrz) ha nt)) .non⟩
          rw [List.length_append]
          omega
    · cases hf
  · cases hf
@[simp] theorem v_ext (xs ys : List Dt) (h : xs.length + ys.length ≤ 1000) : fExt (.list xs) [.list ys] = some (.list (xs ++ ys), .none) := if_pos (sl_lt (by omega))
end
end Iv
set_option Elab.async false
set_option linter.all false
set_option maxRecDepth 100000
set_option maxHeartbeats 2000000
namespace Iv
open PySem L2 PyProof.Rows
variable [Cst]
/-! ### greater numbers -/
theorem sho_intB {i : Int} (h : i.natAbs < 10 ^ 60) : Sho 61 0 200 (.int i) := by
  have hl : i.natAbs.log2 < 200 := by
    by_cases h0 : i.natAbs = 0
    · rw [h0]; decide
    · exact (Nat.log2_lt h0).2 (Nat.lt_of_lt_of_le h (by decide))
  have hs : (PyData.shown (.int i)).length ≤ 61 := by
    have e := int_text_length_le10 (k := 60) (by decide) h
    show (Str.ofString (toString i)).length ≤ 61
    rw [PySem.ofString_length]; exact e
  refine ⟨by simp only [PyData.canLay0], by simp only [PyData.showable]; exact decide_eq_true (by omega), by simp only [PyData.intsShort]; exact decide_eq_true hs, by simp only [PyData.depth]; exact Nat.le_refl _, ?_⟩
  simp only [PyData.weight]
  split <;> omega
theorem sho_okB {D W : Nat} {d : Dt} (h : Sho 61 D W d) (hD : D ≤ 60) (hW : W ≤ 2 ^ 16) : okRepr d = true := by
  have hl := PyData.leavesShort_of_canLay0 61 d h.lay h.short
  have hs := PyData.shown_le 61 (by decide) d hl
  have hw := h.weight
  have e : (2 : Nat) ^ 16 = 65536 := by decide
  have h2 : (61 + 2) * d.weight ≤ 63 * 65536 := Nat.mul_le_mul (by decide) (by omega)
  have h3 : 63 * 65536 + 1000 ≤ sizeLine := by decide
  unfold okRepr
  simp only [h.lay, h.show', Bool.true_and, Bool.and_eq_true, decide_eq_true_eq]
  exact ⟨Nat.le_trans h.depth hD, by omega⟩
theorem repr_tupB {D W : Nat} {xs : List Dt} (h : Sho 61 D W (.tuple xs)) (hD : D ≤ 60) (hW : W ≤ 2 ^ 16) : ∃ x, fRepr [.tuple xs] = some (.v (.str x)) :=
  ⟨(PyData.tuple xs).shown, if_pos (sho_okB h hD hW)⟩
theorem log2_lt' {n k : Nat} (h : n < 2 ^ k) (hk : 0 < k) : n.log2 < k := by
  by_cases h0 : n = 0
  · rw [h0]; exact hk
  · exact (Nat.log2_lt h0).2 h
theorem okMul_of {i j : Int} (h : i.natAbs < 2 ^ 400) (h2 : j.natAbs < 2 ^ 400) : okMul i j = true := by
  have a := log2_lt' h (by decide)
  have b := log2_lt' h2 (by decide)
  unfold okMul
  rw [Bool.or_eq_true]
  exact .inr (decide_eq_true (by omega))
theorem okDiv_of {j : Int} (h : 0 < j) (h2 : j.natAbs < 2 ^ 400) : okDiv j = true := by
  have b := log2_lt' h2 (by decide)
  unfold okDiv
  rw [Bool.and_eq_true]
  exact ⟨decide_eq_true h, decide_eq_true (by omega)⟩
/-- by nature's numbers -/
theorem v_mulN {i j : Nat} (h : i < 2 ^ 400) (h2 : j < 2 ^ 400) : dMul (.int i) (.int j) = some (.v (.int ((i * j : Nat) : Int))) := by
  rw [v_mul, if_pos (okMul_of (by rw [Int.natAbs_natCast]; exact h) (by rw [Int.natAbs_natCast]; exact h2))]
  rfl
theorem v_divN {i j : Nat} (h : 0 < j) (h2 : j < 2 ^ 400) : dDiv (.int i) (.int j) = some (.v (.int ((i / j : Nat) : Int))) := by
  rw [v_div, if_pos (okDiv_of (by omega) (by rw [Int.natAbs_natCast]; exact h2))]
  rfl
theorem v_modN {i j : Nat} (h : 0 < j) : dMod (.int i) (.int j) = some (.v (.int ((i % j : Nat) : Int))) := by
  rw [v_mod, if_pos (by omega)]
  rfl
theorem v_addN {i j : Nat} : dAdd (.int i) (.int j) = some (.v (.int ((i + j : Nat) : Int))) := rfl
/-- Euclid's loop -/
theorem while_gcd {t : M Bool} {body : MS} (ht : ∀ x y : Nat, t [.sh (.int x), .sh (.int y)] = some (decide (y ≠ 0), [.sh (.int x), .sh (.int y)]))
    (hb : ∀ x y : Nat, 0 < y → body [.sh (.int x), .sh (.int y)] = some (.nx, [.sh (.int y), .sh (.int ((x % y : Nat) : Int))])) :
    ∀ (k n x y : Nat), y < 2 ^ k → 2 * k + 1 ≤ n → whileL t body n [.sh (.int x), .sh (.int y)] = some (.nx, [.sh (.int (Nat.gcd x y)), .sh (.int (0 : Nat))])
  | 0, n, x, y, hy, hn => by
    obtain rfl : y = 0 := by have : (2 : Nat) ^ 0 = 1 := rfl; omega
    obtain ⟨n, rfl⟩ := Nat.exists_eq_succ_of_ne_zero (show n ≠ 0 by omega)
    rw [whileL, ht]
    simp
  | k + 1, n, x, y, hy, hn => by
    obtain ⟨n, rfl⟩ := Nat.exists_eq_succ_of_ne_zero (show n ≠ 0 by omega)
    rw [whileL, ht]
    by_cases h0 : y = 0
    · subst h0; simp
    have hy0 : 0 < y := by omega
    simp only [h0, ne_eq, not_false_eq_true, decide_true, Option.bind_some, if_true, hb x y hy0]
    obtain ⟨n, rfl⟩ := Nat.exists_eq_succ_of_ne_zero (show n ≠ 0 by omega)
    rw [whileL, ht]
    have g1 : Nat.gcd x y = Nat.gcd y (x % y) := by rw [Nat.gcd_comm x y, Nat.gcd_rec y x, Nat.gcd_comm]
    by_cases h1 : x % y = 0
    · rw [g1, h1]; simp
    have hr : x % y < y := Nat.mod_lt _ hy0
    simp only [h1, ne_eq, not_false_eq_true, decide_true, Option.bind_some, if_true, hb y (x % y) (by omega)]
    have g2 : Nat.gcd y (x % y) = Nat.gcd (x % y) (y % (x % y)) := by rw [Nat.gcd_comm y (x % y), Nat.gcd_rec (x % y) y, Nat.gcd_comm]
    have h2 : y % (x % y) < 2 ^ k := by
      have a : y % (x % y) < x % y := Nat.mod_lt _ (by omega)
      have b := Nat.div_add_mod y (x % y)
      have c : 0 < y / (x % y) := Nat.div_pos (by omega) (by omega)
      have d : x % y * 1 ≤ x % y * (y / (x % y)) := Nat.mul_le_mul_left _ c
      rw [Nat.pow_succ] at hy
      omega
    rw [while_gcd ht hb k n _ _ h2 (by omega), ← g2, ← g1]
theorem rangeD_lo (lo n : Nat) : rangeD lo n = (List.range n).map fun (i : Nat) => PyData.int ((lo + i : Nat) : Int) := by
  unfold rangeD
  simp
section
variable (a b c d : Dt)
@[simp] theorem at1_0 : atI [a] 0 = some a := (rfl)
@[simp] theorem at2_0 : atI [a, b] 0 = some a := (rfl)
@[simp] theorem at2_1 : atI [a, b] 1 = some b := (rfl)
@[simp] theorem at3_0 : atI [a, b, c] 0 = some a := (rfl)
@[simp] theorem at3_1 : atI [a, b, c] 1 = some b := (rfl)
@[simp] theorem at3_2 : atI [a, b, c] 2 = some c := (rfl)
@[simp] theorem at4_0 : atI [a, b, c, d] 0 = some a := (rfl)
@[simp] theorem at4_1 : atI [a, b, c, d] 1 = some b := (rfl)
@[simp] theorem at4_2 : atI [a, b, c, d] 2 = some c := (rfl)
@[simp] theorem at4_3 : atI [a, b, c, d] 3 = some d := (rfl)
@[simp] theorem ix1_0 : ixN 1 0 = some 0 := (rfl)
@[simp] theorem ix2_0 : ixN 2 0 = some 0 := (rfl)
@[simp] theorem ix2_1 : ixN 2 1 = some 1 := (rfl)
@[simp] theorem ix3_0 : ixN 3 0 = some 0 := (rfl)
@[simp] theorem ix3_1 : ixN 3 1 = some 1 := (rfl)
@[simp] theorem ix3_2 : ixN 3 2 = some 2 := (rfl)
@[simp] theorem ix4_0 : ixN 4 0 = some 0 := (rfl)
@[simp] theorem ix4_1 : ixN 4 1 = some 1 := (rfl)
@[simp] theorem ix4_2 : ixN 4 2 = some 2 := (rfl)
@[simp] theorem ix4_3 : ixN 4 3 = some 3 := (rfl)
end
/-! ### x[i] op= e -/
section
variable (τ τ1 : Tau) (i : Nat) (m mi me : M Rs) (f : Dt → Dt → Option Dt) (d d0 k z : Dt) (r : Rs) (c : Bool)
def kAI1 (i : Nat) (f : Dt → Dt → Option Dt) (me : M Rs) : OR → OS
  | some (.v k, τ) => (match τ[i]? with
    | some (.ow _ c) => (match dIxO c k with
      | some d0 => (me τ).bind fun p => (deref p.1 p.2).bind fun d => (f d0 d).bind fun z => (putI i k z p.2).map fun τ' => (.nx, τ')
      | _ => none)
    | _ => none)
  | _ => none
def kAI0 (i : Nat) (f : Dt → Dt → Option Dt) (mi me : M Rs) (τ : Tau) : Option Sl → OS
  | some (.ow _ _) => kAI1 i f me (mi τ)
  | _ => none
def kAI3 (i : Nat) (f : Dt → Dt → Option Dt) (me : M Rs) (k : Dt) (τ : Tau) : Option Dt → OS
  | some d0 => (me τ).bind fun p => (deref p.1 p.2).bind fun d => (f d0 d).bind fun z => (putI i k z p.2).map fun τ' => (.nx, τ')
  | none => none
def kAI2 (i : Nat) (f : Dt → Dt → Option Dt) (me : M Rs) (k : Dt) (τ : Tau) : Option Sl → OS
  | some (.ow _ c) => kAI3 i f me k τ (dIxO c k)
  | _ => none
def kAI4 (i : Nat) (f : Dt → Dt → Option Dt) (k d0 : Dt) : OR → OS
  | some (r, τ) => (deref r τ).bind fun d => (f d0 d).bind fun z => (putI i k z τ).map fun τ' => (.nx, τ')
  | none => none
def kAI5 (i : Nat) (f : Dt → Dt → Option Dt) (k d0 : Dt) (τ : Tau) : Option Dt → OS
  | some d => (f d0 d).bind fun z => (putI i k z τ).map fun τ' => (.nx, τ')
  | none => none
def kAI6 (i : Nat) (k : Dt) (τ : Tau) : Option Dt → OS
  | some z => kIt6 i k z τ τ[i]?
  | none => none
@[simp] theorem e_augIt : mAugIt i f mi me τ = kAI0 i f mi me τ τ[i]? := by
  unfold mAugIt
  cases τ[i]? with
  | none => rfl
  | some u =>
    cases u with
    | ow c d =>
      show (mi τ).bind _ = kAI1 i f me (mi τ)
      cases mi τ with
      | none => rfl
      | some p =>
        obtain ⟨r, τ⟩ := p
        cases r with
        | v k =>
          simp only [Option.bind_some, kAI1]
          cases τ[i]? with
          | none => rfl
          | some u => cases u <;> rfl
        | nw k => simp only [Option.bind_some, kAI1]
        | sl k => simp only [Option.bind_some, kAI1]
    | _ => rfl
@[simp] theorem kAI0_s : kAI0 i f mi me τ (some (.ow c d)) = kAI1 i f me (mi τ) := (rfl)
@[simp] theorem kAI1_s : kAI1 i f me (some (.v k, τ)) = kAI2 i f me k τ τ[i]? := by
  simp only [kAI1]
  cases τ[i]? with
  | none => rfl
  | some u =>
    cases u with
    | ow c d =>
      simp only [kAI2]
      cases dIxO d k <;> rfl
    | _ => rfl
@[simp] theorem kAI2_s : kAI2 i f me k τ (some (.ow c d)) = kAI3 i f me k τ (dIxO d k) := (rfl)
@[simp] theorem kAI3_s : kAI3 i f me k τ (some d0) = kAI4 i f k d0 (me τ) := by
  show (me τ).bind _ = _
  cases me τ <;> rfl
@[simp] theorem kAI4_s : kAI4 i f k d0 (some (r, τ)) = kAI5 i f k d0 τ (deref r τ) := by
  show (deref r τ).bind _ = _
  cases deref r τ <;> rfl
@[simp] theorem kAI5_s : kAI5 i f k d0 τ (some d) = kAI6 i k τ (f d0 d) := by
  show (f d0 d).bind _ = _
  cases f d0 d with
  | none => rfl
  | some z =>
    show (putI i k z τ).map _ = kIt6 i k z τ τ[i]?
    unfold putI kIt6
    cases τ[i]? with
    | none => rfl
    | some u => cases u <;> first | rfl | (simp; done) | (simp [Option.map_map]; rfl)
@[simp] theorem kAI6_s : kAI6 i k τ (some z) = kIt6 i k z τ τ[i]? := (rfl)
@[simp] theorem v_ixo (xs : List Dt) (j : Int) : dIxO (.list xs) (.int j) = atI xs j := (rfl)
end
/-- a count up to the first that fails the test -/
theorem while_to {t : M Bool} {body : MS} (τ : Nat → Tau) (p : Nat → Bool) (m : Nat) (ht : ∀ n, n ≤ m → t (τ n) = some (p n, τ n)) (hb : ∀ n, n < m → body (τ n) = some (.nx, τ (n + 1))) (hp : ∀ n, n < m → p n = true) (h0 : p m = false) :
    ∀ (k n : Nat), n ≤ m → m - n < k → whileL t body k (τ n) = some (.nx, τ m)
  | 0, n, _, h => by omega
  | k + 1, n, hn, h => by
    rw [whileL, ht n hn]
    by_cases e : n = m
    · subst e; simp [h0]
    · simp only [Option.bind_some, hp n (by omega), if_true, hb n (by omega)]
      exact while_to τ p m ht hb hp h0 k (n + 1) (by omega) (by omega)
/-- the first that fails -/
theorem first_false (p : Nat → Bool) : ∀ (m : Nat), p m = false → ∃ k, k ≤ m ∧ p k = false ∧ ∀ j, j < k → p j = true
  | 0, h => ⟨0, Nat.le_refl _, h, fun j hj => by omega⟩
  | m + 1, h => by
    by_cases c : ∃ k, k ≤ m ∧ p k = false
    · obtain ⟨k, h1, h2⟩ := c
      obtain ⟨j, h3, h4, h5⟩ := first_false p k h2
      exact ⟨j, by omega, h4, h5⟩
    · refine ⟨m + 1, Nat.le_refl _, h, fun j hj => ?_⟩
      cases e : p j with
      | true => rfl
      | false => exact absurd ⟨j, by omega, e⟩ c
  termination_by m => m
  decreasing_by omega
theorem pl_un {s : Sl} (h : pl s = true) : s = .un ∨ ∃ d, s = .sh d := by
  cases s with
  | un => exact .inl rfl
  | sh d => exact .inr ⟨d, rfl⟩
  | _ => cases h
end Iv
set_option Elab.async false
set_option linter.all false
set_option maxRecDepth 100000
set_option maxHeartbeats 2000000
namespace Iv
open PySem L2 PySem.Spec PyProof.Rows
variable [Cst]
/-! ### a lambda with a parameter that has a default and is never read -/
structure LamD (N : List Str) (sc scope : Scope) : Prop where
  kind : scope.kind = .function
  co : scope.isCoroutine = false
  gen : scope.isGenerator = false
  own : ∀ y ∈ scope.names, y.2 ≠ .cell
  loc : ∀ y ∈ scope.names, y.2 = .local → y.1 ∉ N
  free : ∀ y ∈ scope.names, y.2 = .free → sc.names.lookup y.1 = some .cell ∨ sc.names.lookup y.1 = some .free
def lamDB (N : List Str) (sc scope : Scope) : Bool :=
  decide (scope.kind = .function) && !scope.isCoroutine && !scope.isGenerator && scope.names.all fun y => !decide (y.2 = .cell) && (!decide (y.2 = .local) || !N.contains y.1) && (!decide (y.2 = .free) || decide (sc.names.lookup y.1 = some .cell) || decide (sc.names.lookup y.1 = some .free))
theorem lamD_by {N : List Str} {sc scope : Scope} (h : lamDB N sc scope = true) : LamD N sc scope := by
  unfold lamDB at h
  simp only [Bool.and_eq_true, Bool.or_eq_true, Bool.not_eq_true', decide_eq_true_eq, decide_eq_false_iff_not, List.all_eq_true] at h
  obtain ⟨⟨⟨h1, h2⟩, h3⟩, h4⟩ := h
  refine ⟨h1, h2, h3, fun y hy => (h4 y hy).1.1, fun y hy e z => ?_, fun y hy e => ?_⟩
  · rcases (h4 y hy).1.2 with q | q
    · exact q e
    · rw [List.contains_iff_mem.mpr z] at q
      cases q
  · rcases (h4 y hy).2 with (z | z) | z
    · exact absurd e z
    · exact .inl z
    · exact .inr z
theorem LamD.has {X : Cx} {N : List Str} {scope : Scope} (L : LamD N X.env.scope scope) (ok : X.Ok) : ∀ y ∈ scope.names, y.2 = .free → ∃ c, X.env.cells.lookup y.1 = some c := fun y hy e => by
  rcases L.free y hy e with k | k
  · exact ok.has _ (.inl k)
  · exact ok.has _ (.inr k)
section
variable {X : Cx} {pins : List (Addr × Obj)} {σ : L2.St} {H HZ : Hp} {s s1 : Shared}
theorem lam_startD {A : Around} {outer : List Env} {E : XK} {scope : Scope} {f c' : Addr} {h₁ : Heap} {tk : Nat} {bs : List (Str × Value)} (I : L2.Inv X pins σ H s) (L : LamD X.N X.env.scope scope) (e0 : Env0 X.prog X.w X.K X.mg X.base A outer s1 HZ) (hd : A.handled = none)
    (un : L2.Un (frs X.stack) [] H HZ s.heap s1.heap) (hns : h₁.Ns s1.heap.objs.size fun y => bs.reverse.lookup y) (kp : ∀ b o, s1.heap.get? b = some o → h₁.get? b = some o) :
    L2.Inv (LamX.lamCx X A outer s1 HZ E scope f c') [] σ HZ { s1 with heap := h₁, toks := tk } := by
  have hfree := L.has I.ok
  have back : ∀ {y c}, (cloFrom X.env.cells scope.names []).lookup y = some c → X.env.cells.lookup y = some c := by
    intro y c e
    rcases cloFrom_mem (PySem.mem_of_lookup e) with hm | ⟨h1, h2⟩
    · cases hm
    · obtain ⟨c1, hc⟩ := hfree _ h1 rfl
      have hc : X.env.cells.lookup y = some c1 := hc
      obtain rfl : c = c1 := by rw [h2, hc] <;> rfl
      exact hc
  have look : ∀ {y}, scope.names.lookup y = some .free → ∃ c, (cloFrom X.env.cells scope.names []).lookup y = some c := by
    intro y hl
    exact mem_lookup (cloFrom_has (cells := X.env.cells) (acc := []) (PySem.mem_of_lookup hl))
  have cellK : ∀ {c : Addr} {v : Option Value}, H c = none → s.heap.IsCell c v → h₁.IsCell c v := by
    rintro c v n ⟨o, ho, hd⟩
    obtain ⟨sl, q⟩ := un.any ho n (by simp)
    exact ⟨_, kp _ _ q, hd⟩
  have noA : ∀ b : Addr, b ∉ (LamX.lamCx X A outer s1 HZ E scope f c').ex := fun b z => by cases (show b ∈ ([] : List Addr) from z)
  refine ⟨⟨e0.mod, L.kind, rfl, rfl, Nat.le_refl _, fun y z c e1 e2 => I.ok.inj y z c (back e1) (back e2), fun y hy => ?_, fun y c z _ => ?_, fun _ => hd, Around.frames_deeper e0.frames, .inr ⟨rfl, rfl⟩, fun b z => absurd z (noA b), e0.bs, e0.bsz, fun b _ _ => noA b,
      fun b z => absurd z (noA b), e0.funs, e0.frf⟩,
    rfl, e0.bare, L2.Un.kept kp, ⟨_, hns, fun i y v e1 e2 e3 => ?_⟩, fun y c e => ?_, e0.hok.fresh (Nat.le_refl _), fun y c e => ?_, fun q hq => absurd (show q ∈ ([] : List (Addr × Obj)) ++ [] from hq) List.not_mem_nil, e0.hok.kept kp, I.len⟩
  · rcases (show scope.names.lookup y = some .cell ∨ scope.names.lookup y = some .free from hy) with hy | hy
    · exact absurd rfl (L.own _ (PySem.mem_of_lookup hy))
    · exact look hy
  · cases (show false = true from z)
  · rcases (show Vis scope y from e3) with k | k | k
    · exact absurd (List.mem_of_getElem? e1) (L.loc _ (PySem.mem_of_lookup k) rfl)
    · exact absurd rfl (L.own _ (PySem.mem_of_lookup k))
    · obtain ⟨m, hn, hl⟩ := I.loc
      have fk := L.free _ (PySem.mem_of_lookup k) rfl
      have hvis : Vis X.env.scope y := fk.elim (fun k => .inr (.inl k)) (fun k => .inr (.inr k))
      obtain ⟨w', r, q⟩ := hl i y v e1 e2 hvis
      obtain ⟨c2, h2⟩ := look k
      refine ⟨w', r, .inr ⟨.inr k, c2, h2, ?_⟩⟩
      have c1 := back h2
      rcases q with ⟨k', _⟩ | ⟨_, c3, e', z⟩
      · have k' : X.env.scope.names.lookup y = some .local := k'
        rcases fk with k2 | k2 <;> rw [show X.env.scope.names.lookup y = _ from k2] at k' <;> cases k'
      · rw [c1] at e'
        cases e'
        exact cellK (I.freeC y _ c1) z
  · obtain ⟨w', z⟩ := I.cell y c (back e)
    exact ⟨w', cellK (I.freeC y c (back e)) z⟩
  · obtain ⟨v, o, ho, hd⟩ := I.cell y c (back e)
    exact un.free c o ho (I.freeC y c (back e)) (by simp)
end
abbrev lamObj (q : Str) (params : Arguments) (body : Expr) (scope : Scope) (cl : List (Str × Addr)) (T : Addr) (doc pm : Value) (c' : Addr) (ctv : Value) : Obj := PySem.W.kdv_obj "<lambda>" q params (.expr body) scope cl (.ref T) doc pm c' ctv
section
variable {X : Cx} {pins : List (Addr × Obj)} {σ : L2.St} {H : Hp} {s : Shared}
theorem lam_newD {c P : Addr} {ps : Array Value} {params : Arguments} {body : Expr} {scope : Scope} {pos : Pos} {E : Value → Shared → Prop} {Q : Value → Shared → Prop} {z : Int} {de : Expr} (I : L2.Inv X pins σ H s) (TB : LamX.TabB X.base X.mg c P) (hcode : X.env.code = .ref c)
    (hP : H P = some (.tbl ps)) (tb : Tabs H) (hq : X.env.qual ++ "<lambda>" = Cst.lamQ) (hd1 : params.defaults = [de]) (hd2 : params.kw_defaults = []) (hde : PE X.nox de (tC (.int z))) (hE : ∀ e s', False → E e s') (hfree : ∀ y ∈ scope.names, y.2 = .free → ∃ c, X.env.cells.lookup y.1 = some c)
    (h : ∀ (f c' T : Addr) (doc pm ctv v : Value) (H1 : Hp) (s' : Shared), L2.Inv X pins σ H1 s' → Ext nO H H1 →
      s'.heap.get? f = some (lamObj Cst.lamQ params body scope (cloFrom X.env.cells scope.names []) T doc pm c' ctv) → s'.heap.get? T = some (PySem.W.kdv_tup [v]) → H1 f = none → H1 T = none → f ∉ frs X.stack → T ∉ frs X.stack → H1 c' = some (LamX.CodeO c' Cst.lamQ) → Q (.ref f) s') :
    wpAny (model X.prog X.w) X.A (eval (.Lambda params body scope pos) X.env) Q E s := by
  refine PySem.W.kdv_lam (by rw [hd1]; rfl) hd2 ?_
  rw [hd1]
  refine PySem.W.kdv_all1 ?_
  refine wpAny_mono (hde.run pins s σ H (fun v H1 => v = .int z ∧ H1 = H) (I.wish _) ⟨rfl, rfl⟩) ?_ fun e s' q => hE e s' q
  rintro v sv ⟨v0, H1, I0, rv, rfl, rfl⟩
  have I0 := I0.unwish
  refine PySem.W.kdv_all0 ?_
  rw [makeFunction_eq]
  simp only [List.zip_nil_right, List.filterMap_nil, List.isEmpty_nil, List.isEmpty_cons, if_true, pure_bind, Bool.false_eq_true, if_false]
  refine wpAny_bind (wpAny_newTextTuple ?_)
  have Ip : L2.Inv X pins σ H1 { sv with heap := sv.heap.push (PySem.W.kdv_tup [v]) } := I0.kept fun b o e => Heap.get?_push_of_some _ e
  have hT0 : (sv.heap.push (PySem.W.kdv_tup [v])).get? sv.heap.objs.size = some (PySem.W.kdv_tup [v]) := Heap.get?_push_size _ rfl
  have hTn : H1 sv.heap.objs.size = none := I0.hok.fresh (Nat.le_refl _)
  have far0 : ∀ f, sv.heap.objs.size ≤ f → f ∉ frs X.stack := by
    intro f hf z
    rcases List.mem_cons.mp (I0.stkSub _ z) with e | e
    · have h1 := I0.lt
      rw [← e] at h1
      exact absurd h1 (Nat.not_lt.mpr hf)
    · exact I0.nofs hf e
  have hTf := far0 _ (Nat.le_refl sv.heap.objs.size)
  have hsz1 : sv.heap.objs.size ≤ (sv.heap.push (PySem.W.kdv_tup [v])).objs.size := by rw [Heap.size_push]; omega
  clear I0 rv
  generalize hs1 : ({ sv with heap := sv.heap.push (PySem.W.kdv_tup [v]) } : Shared) = s1 at Ip ⊢
  have e1 : sv.heap.push (PySem.W.kdv_tup [v]) = s1.heap := by rw [← hs1]
  rw [e1] at hT0 hsz1
  clear hs1 e1
  generalize sv.heap.objs.size = T at *
  obtain ⟨ht, ha⟩ := tb P ps hP
  rw [← hq] at h ha
  have bP : s1.heap.BuiltinsAt X.mg P := TB.bm.keeps Ip.bk
  have hP' : s1.heap.get? P = some { cls := .none, data := .fields ps } := Ip.hok P _ hP
  have far : ∀ f, s1.heap.objs.size ≤ f → f ∉ frs X.stack := fun f hf => far0 f (by omega)
  cases hc : codeAmong pos ps.toList with
  | some cv =>
    obtain ⟨c', rfl, hco⟩ := ha pos cv hc
    refine PySem.W.kdv_makeTailHit (mg := X.mg) (c := c) (P := P) (ps := ps) (closure_ok hfree) Ip.ok.glob (Ip.mod.glob.keeps Ip.bk) hcode (TB.code.keeps Ip.bk) hP' ht hc bP ?_
    intro ctv doc h' tk hx hsz
    refine h h'.objs.size c' T doc ((X.mg "__name__").getD .none) ctv v H1 _ (Ip.kept (t' := tk) (h' := h'.push _) fun b o e => Heap.get?_push_of_some _ (hx b o e)) .refl (Heap.get?_push_size _ rfl) (Heap.get?_push_of_some _ (hx _ _ hT0)) (Ip.hok.fresh hsz) hTn (far _ hsz) hTf hco
  | none =>
    refine PySem.W.kdv_makeTail (mg := X.mg) (c := c) (P := P) (ps := ps) (closure_ok hfree) Ip.ok.glob (Ip.mod.glob.keeps Ip.bk) hcode (TB.code.keeps Ip.bk) hP' ht hc TB.gP bP ?_
    intro c' ctv doc h' tk hx hge hlt hrec htb
    obtain ⟨c2, oc, vs, t, e2, hoc, hd, hv⟩ := hrec
    cases e2
    have hsz : s1.heap.objs.size ≤ h'.objs.size := by omega
    have nC : H1 c' = none := Ip.hok.fresh hge
    have TP : T ≠ P := ne_of_none (a := P) (b := T) (H := H1) (by rw [hP]) hTn |>.symm
    have I1 := LamX.inv_table (t' := tk) (q := X.env.qual ++ "<lambda>") (more := #[rawInt pos.line, rawInt pos.col, .ref c']) (h' := h'.push (lamObj (X.env.qual ++ "<lambda>") params body scope (cloFrom X.env.cells scope.names []) T doc ((X.mg "__name__").getD .none) c' ctv)) Ip hP
      (fun b o hb e => Heap.get?_push_of_some _ (hx b o hb e)) (Heap.get?_push_of_some _ htb) hge ⟨oc, vs, t, Heap.get?_push_of_some _ hoc, hd, hv⟩
    have ex := ext_tab (pos := pos) hP nC
    rw [← hq] at ex
    have n1 : h'.objs.size ≠ c' := by omega
    have n2 : h'.objs.size ≠ P := by
      exact Nat.ne_of_gt (Nat.lt_of_lt_of_le (Heap.lt_size hP') hsz)
    have n3 : T ≠ c' := Nat.ne_of_lt (Nat.lt_of_lt_of_le (Heap.lt_size hT0) hge)
    refine h h'.objs.size c' T doc ((X.mg "__name__").getD .none) ctv v _ _ I1 ex (Heap.get?_push_size _ rfl) (Heap.get?_push_of_some _ (hx _ _ TP hT0)) ?_ ?_ (far _ hsz) hTf upd_same
    · rw [upd_ne n1, upd_ne n2]
      exact Ip.hok.fresh hsz
    · rw [upd_ne n3, upd_ne TP]
      exact hTn
end
end Iv
set_option Elab.async false
set_option linter.all false
set_option maxRecDepth 100000
set_option maxHeartbeats 2000000
namespace Iv
open PySem L2 PySem.Spec PyProof.Rows
variable [Cst]
section
variable {X : Cx} {pins : List (Addr × Obj)} {σ : L2.St} {H : Hp} {s : Shared}
/-- the call of what was handed in, in the def that got it -/
theorem lam_actD {Eg : XK} {Ng : List Str} {qg : Str} {sg : Scope} {g f c' : Addr} {cdg pm ctv doc vd : Value} {T : Addr} {an : Str} {params : Arguments} {body : Expr} {scope : Scope} {k i : Nat} {a : Str} {pn : List (Addr × Obj)} {xe : Value → Shared → Prop} {W : WX} {Ech : XK} {tb : TE} {p1 p2 : Pos}
    (I : L2.Inv X pins σ H s) (L : LamD X.N X.env.scope scope) (hf : s.heap.get? f = some (lamObj (X.env.qual ++ "<lambda>") params body scope (cloFrom X.env.cells scope.names []) T doc pm c' ctv)) (hT : s.heap.get? T = some (PySem.W.kdv_tup [vd])) (hfn : H f = none) (hTn : H T = none) (hfr : f ∉ frs X.stack) (hTf : T ∉ frs X.stack)
    (hbind : ∃ k : Option (Array Value) → Sem (List (Str × Value)), bindArgs (PySem.W.kdv_fn "<lambda>" (X.env.qual ++ "<lambda>") params (.expr body) scope (cloFrom X.env.cells scope.names []) (.ref T) doc pm (.ref c') ctv) ⟨[], []⟩ = seqItems? (.ref T) >>= k ∧ ∀ v : Value, k (some #[v]) = pure [(an, v)]) (hal : scope.names.lookup an = some .local)
    (tk : Takes ((cxOf CX0 X.prog X.w X.K X.mg X.base Ng qg sg g cdg X.A X.stack s H Eg).tr pn xe) W) (hr : Room (k + 1) (X.A.deeper (envOfC qg sg s.heap.objs.size g cdg)))
    (hbody : ∀ (s1 : Shared) (H1 : Hp), Room k ((X.A.deeper (envOfC qg sg s.heap.objs.size g cdg)).deeper (LamX.lamEnv X scope s1.heap.objs.size f c')) → PE (LamX.lamCx X (X.A.deeper (envOfC qg sg s.heap.objs.size g cdg)) (envOfC qg sg s.heap.objs.size g cdg :: X.stack) s1 H1 Ech scope f c') body tb)
    (hN : Ng[i]? = some a) (hv : Vis sg a) (hd : (a == ("__debug__" : Str)) = false := by decide) (hcd : (a == ("__classdict__" : Str)) = false := by decide) :
    PE ((cxOf CX0 X.prog X.w X.K X.mg X.base Ng qg sg g cdg X.A X.stack s H Eg).tr pn xe) (.Call (.Name a p1) [] [] p2)
      (fun σZ HZ Q => σZ[i]? = some (some (.ref f)) ∧ HZ c' = some (LamX.CodeO c' (X.env.qual ++ "<lambda>")) ∧ (∀ cls d H', Ech cls d H' → W cls d σZ H') ∧ tb σ HZ Q) := by
  constructor
  intro pinsZ sZ σZ HZ Q IZ ⟨hs, hc, hW, ht⟩
  refine wpAny_Call_Name_kw (thn ((pe_var (pos := p1) (i := i) hN hv hd hcd).run pinsZ sZ σZ HZ (fun v H1 => v = .ref f ∧ H1 = HZ) IZ ⟨.ref f, hs, rfl, rfl⟩) ?_)
  intro u s1 ⟨v0, H1, I1, r1, e1, e2⟩
  subst e1
  rw [e2] at I1
  clear e2 H1
  obtain rfl : u = Value.ref f := r1
  have atf : s1.heap.get? f = some (lamObj (X.env.qual ++ "<lambda>") params body scope (cloFrom X.env.cells scope.names []) T doc pm c' ctv) := I1.base.keep f _ hf hfn hfr fun z => by cases z
  have atT : s1.heap.get? T = some (PySem.W.kdv_tup [vd]) := I1.base.keep T _ hT hTn hTf fun z => by cases z
  refine PySem.W.callWith_F0 ⟨_, _, _, _, atf⟩ ?_
  have un : L2.Un (frs X.stack) [] H HZ s.heap s1.heap := I1.base
  obtain ⟨⟨oc, vs, t, hoc, hdc, hvc⟩, _, _⟩ := I1.hok c' _ hc
  have run : codeAny (model X.prog X.w) (X.A.deeper (envOfC qg sg s.heap.objs.size g cdg)) (.call (.ref f) ⟨[], []⟩) (CR (L2.CX X.prog X.w) (envOfC qg sg s.heap.objs.size g cdg :: X.stack) X.prog X.w HZ s1 Q Ech) s1 := by
    refine PySem.W.kla_callFunE hr.depth atf rfl L.co L.gen rfl ⟨c', oc, vs, t, rfl, hoc, hdc, hvc⟩ ?_
    obtain ⟨kk, hb1, hb2⟩ := hbind
    have hbt : BindsTo s1 (PySem.W.kdv_fn "<lambda>" (X.env.qual ++ "<lambda>") params (.expr body) scope (cloFrom X.env.cells scope.names []) (.ref T) doc pm (.ref c') ctv) ⟨[], []⟩ [(an, vd)] := BindsTo.of_defaults rfl atT rfl hb1 (hb2 vd)
    refine hbt _ _ _ _ ?_
    refine wpAny_newFunctionEnv (fun y hy => L.own y hy) (fun y hy => ?_) (fun h₁ hns hsb => ⟨I1.nolimit.fresh _ hsb, ?_⟩) L.kind
    · rw [List.mem_singleton.mp hy]; exact hal
    have kept : ∀ b o, s1.heap.get? b = some o → h₁.get? b = some o := fun b o e => hsb.extBut b o (Nat.ne_of_lt (Heap.lt_size e)) (Heap.get?_push_of_some _ e)
    have J := lam_startD (E := Ech) (f := f) (c' := c') (tk := s1.toks + [(an, vd)].length) I L I1.env0 hr.hd un hns kept
    refine PySem.W.kla_codeExpr (wpAny_mono ((hbody s1 HZ (hr.deeper _)).run [] _ _ HZ Q J ht) ?_ fun e s' hq => hq)
    rintro v s' ⟨w', H', J', rv, q⟩
    exact ⟨w', H', J'.os, J'.bare, J'.base, J'.hok, rv, q⟩
  refine wpAny_call (codeAny_mono run ?_)
  rintro (e | fl) s' hq
  · refine passAt tk σZ pinsZ HZ s1 e s' I1 ?_
    obtain ⟨a', B, H', cls, d, x1, x2, x3, x4, x5, x6, x7, x8⟩ := hq
    exact ⟨a', B, H', cls, d, x1, x2, x3, x4, x5, x6, x7, hW _ _ _ x8⟩
  · cases fl with
    | ret u => exact I1.after hq
    | next => exact hq.elim
    | brk => exact hq.elim
    | cont => exact hq.elim
end
theorem se_saidD {X : Cx} {k : Nat} {sd ve err cn : Str} {Ng : List Str} {st : Stmt} {i : Nat} {b0 : Stmt} {suite : List Stmt} {cs : List Str} {isB : Str → Str → Bool} {ms : Addr → Str → MS} {w : Str → Option Dt} {c P : Addr} {params : Arguments} {body : Expr} {scope : Scope} {m : M Rs} {r : XT} {lt : Dt} {el de : Expr} {zd : Int} {an : Str}
    {p p1 p2 p3 p4 p5 p6 p8 pos lpos : Pos} (Dd : DefG X.K X.mg sd [cn] st) (Sg : FnScope Ng [cn] (defScope st))
    (hst : defBody st = [.Try [.Expr (.Call (.Name cn p1) [] [] p2) p3] [.ExceptHandler (some (.Name ve p4)) (some err) (b0 :: suite) p5] [] [] p6, .Return (some el) p8])
    (h0 : Ng[0]? = some cn) (hvc : Vis (defScope st) cn) (hi : Ng[i]? = some err) (hie : (defScope st).names.lookup err = some .local) (hve : ve ∈ cs) (F : ErrF X.K X.mg cs isB) (hgv : (defScope st).names.lookup ve = some .globalImplicit) (hdv : (ve == ("__debug__" : Str)) = false)
    (hel : ∃ v, (∀ Z : Cx, PE Z el (tC v)) ∧ ∀ K O H, Rp K O H v lt)
    (hsu : ∀ (g : Addr) (cdv : Value) (A : Around) (outer : List Env) (s : Shared) (H : Hp) (E : XK), Rm (cxOf CX0 X.prog X.w X.K X.mg X.base Ng sd (defScope st) g cdv A outer s H E).nox (k + 1) → ∀ cc ∈ cs, ∀ (D a : Addr) (oe : Obj) (pn : List (Addr × Obj)), X.mg cc = some (.ref D) → Zc (.ref D) none oe → (∃ vs, oe.data = .fields vs) →
      SB ((cxOf CX0 X.prog X.w X.K X.mg X.base Ng sd (defScope st) g cdv A outer s H E).nox.suite a ((a, oe) :: pn)) (b0 :: suite) (ms a cc))
    (hw : ∀ cc x, w cc = some x → cc ∈ cs ∧ isB cc ve = true ∧ pureD x = true ∧ ∀ a, ∃ τ', ms a cc (tauE Ng.length i a) = some (.rt x false, τ'))
    (TB : LamX.TabB X.base X.mg c P) (hcode : X.env.code = .ref c) (hP0 : ∃ ps, X.H_0 P = some (.tbl ps)) (hq : X.env.qual ++ "<lambda>" = Cst.lamQ) (R : Rm X (k + 2)) (L : LamD X.N X.env.scope scope) (hd1 : params.defaults = [de]) (hd2 : params.kw_defaults = []) (hde : PE X.nox de (tC (.int zd))) (hal : scope.names.lookup an = some .local)
    (hbind : ∀ (q : Str) (cl : List (Str × Addr)) (T : Addr) (doc pm cv ctv : Value), ∃ k : Option (Array Value) → Sem (List (Str × Value)), bindArgs (PySem.W.kdv_fn "<lambda>" q params (.expr body) scope cl (.ref T) doc pm cv ctv) ⟨[], []⟩ = seqItems? (.ref T) >>= k ∧ ∀ v : Value, k (some #[v]) = pure [(an, v)])
    (hm : ∀ (A : Around) (outer : List Env) (s : Shared) (H : Hp) (E : XK) (f c' : Addr), Rm (LamX.lamCx X A outer s H E scope f c') k → SE (LamX.lamCx X A outer s H E scope f c').nox body m)
    (hr : ∀ (A : Around) (outer : List Env) (s : Shared) (H : Hp) (E : XK) (f c' : Addr), Rm (LamX.lamCx X A outer s H E scope f c') k → EX (LamX.lamCx X A outer s H E scope f c') body r)
    (hg : Gl X sd) (hdb : (sd == ("__debug__" : Str)) = false := by decide) (hdc : (cn == ("__debug__" : Str)) = false := by decide) (hcc : (cn == ("__classdict__" : Str)) = false := by decide) :
    SE X (.Call (.Name sd p) [.Lambda params body scope lpos] [] pos) (mSaid m r w lt) := by
  refine ⟨⟨fun pins s σ H Q I q => ?_⟩⟩
  obtain ⟨E, τ, rr, τf, S, hmm, kq⟩ := q
  obtain ⟨g, fdg, Fg, hmg, hb⟩ := Dd.ex
  obtain ⟨oc, od, kV, doc, pm, an, cdv, ct, osl, rfl, lk, hcd⟩ := Fg.ex
  obtain ⟨ps0, hP0⟩ := hP0
  obtain ⟨more, hP⟩ := I.base.tbls P ps0 hP0
  refine wpAny_Call_Name_kw (ld_glob I hg hmg ?_ hdb)
  refine PySem.W.callWith_K (h₀ := X.base) I.ok.mod.kin Fg.kp ?_ (by rfl) (by rfl)
  show wpAny _ _ (spliced ((false, eval (.Lambda params body scope lpos) X.env) :: backTo pos (starEach [] X.env))) _ _ s
  refine Calls.spliced_cons (lam_newD I TB hcode hP S.tb hq hd1 hd2 hde (fun _ _ z => z.elim) (L.has I.ok) ?_)
  intro f c' T doc pm' ctv vd H1 s' I1 ex hf hT hfn hTn hfr hTf hco
  refine Calls.spliced_nil ⟨I1.kIn, ?_⟩
  have S1 := S.grow ex
  have B1 : PostB X.K E τ σ H τ H1 := ⟨ex.wider fun _ z => z.elim, .refl, S1⟩
  rw [← hq] at hf hco
  have rc : codeAny (model X.prog X.w) X.A (.call (.ref g) ⟨[.ref f], []⟩) (CR CX0 X.stack X.prog X.w H1 s' Q E0) s' := by
    refine LamX.run_ofS (N := Ng) (ps := [cn]) (us := [.ref f]) (vs := [.ref f]) lk hcd Sg R.hr I1.env0 (hb s' [.ref f] I1.kIn rfl) (.cons rfl .nil) rfl fun hr' => ?_
    have RZ : Rm (cxOf CX0 X.prog X.w X.K X.mg X.base Ng sd (defScope st) g cdv X.A X.stack s' H1 E0).nox (k + 1) := ⟨R.hG, hr'⟩
    obtain ⟨v1, hpe, hrv⟩ := hel
    obtain ⟨C, hC, _⟩ := F.cls ve hve
    have hNl : 1 ≤ Ng.length := by
      have := (List.getElem?_eq_some_iff.mp h0).1
      omega
    have hil : i < Ng.length := (List.getElem?_eq_some_iff.mp hi).1
    let tb : WX → TS := fun W D σZ HZ => ∃ Ech : XK, (∀ cls d H', Ech cls d H' → W cls d σZ H') ∧ σZ[0]? = some (some (.ref f)) ∧ HZ c' = some (LamX.CodeO c' (X.env.qual ++ "<lambda>")) ∧ tLb X.K X.mg m r Ech σ HZ fun _ H' => D.nx σZ H'
    let ts : Addr → Value → Option Addr → TS := fun a cls d D σZ HZ => ∃ cc, cc ∈ cs ∧ X.mg cc = some cls ∧ d = none ∧ sOf X.K (ms a cc) D σZ HZ
    have hbd : ∀ (W : WX) (pn : List (Addr × Obj)) (xe : Value → Shared → Prop), Takes ((cxOf CX0 X.prog X.w X.K X.mg X.base Ng sd (defScope st) g cdv X.A X.stack s' H1 E0).nox.tr pn xe) W → PassesOwn (model X.prog X.w) (cxOf CX0 X.prog X.w X.K X.mg X.base Ng sd (defScope st) g cdv X.A X.stack s' H1 E0).nox.A (cxOf CX0 X.prog X.w X.K X.mg X.base Ng sd (defScope st) g cdv X.A X.stack s' H1 E0).nox.env xe →
        PSs ((cxOf CX0 X.prog X.w X.K X.mg X.base Ng sd (defScope st) g cdv X.A X.stack s' H1 E0).nox.tr pn xe) [.Expr (.Call (.Name cn p1) [] [] p2) p3] (tb W) := by
      intro W pn xe tk _
      refine pss_one ⟨fun pinsZ sZ σZ HZ D IZ h => ?_⟩
      obtain ⟨Ech, hW, h1, h2, h3⟩ := h
      exact (ps_expr (lam_actD (i := 0) (Ech := Ech) (Eg := E0) (Ng := Ng) I1 L hf hT hfn hTn hfr hTf (hbind _ _ _ _ _ _ _) hal tk hr' (fun s2 H2 hr2 => lb_body (hm _ _ _ _ _ _ _ ⟨R.hG, hr2⟩) (hr _ _ _ _ _ _ _ ⟨R.hG, hr2⟩)) h0 hvc hdc hcc)).run pinsZ sZ σZ HZ D IZ ⟨h1, h2, hW, h3⟩
    have hsb : ∀ (a : Addr) (oe : Obj) (cls : Value) (d : Option Addr) (pn : List (Addr × Obj)), Zc cls d oe → (∃ vs, oe.data = .fields vs) → PSs ((cxOf CX0 X.prog X.w X.K X.mg X.base Ng sd (defScope st) g cdv X.A X.stack s' H1 E0).nox.suite a ((a, oe) :: pn)) (b0 :: suite) (ts a cls d) := by
      intro a oe cls d pn hz hfl
      refine ⟨fun pinsZ sZ σZ HZ D IZ h => ?_⟩
      obtain ⟨cc, h1, h2, h3, h4⟩ := h
      obtain ⟨D0, e1, _⟩ := F.cls cc h1
      rw [h2] at e1
      cases e1
      subst h3
      exact (hsu g cdv X.A X.stack s' H1 E0 RZ cc h1 D0 a oe pn h2 hz hfl).pss.run pinsZ sZ σZ HZ D IZ h4
    rw [hst]
    refine ⟨_, (pss_cons (ps_try_as (X := (cxOf CX0 X.prog X.w X.K X.mg X.base Ng sd (defScope st) g cdv X.A X.stack s' H1 E0).nox) rfl rfl Sg.nd hi hie ⟨hgv, hdv, .inl hC⟩ LamX.takes0 hbd hsb) (pss_one (ps_ret (hpe _)))).nox, ?_⟩
    have hlen : (L2.start Ng [V.ref f]).length = Ng.length := by
      unfold L2.start
      simp
      omega
    have hz0 : (L2.start Ng [V.ref f])[0]? = some (some (.ref f)) := by unfold L2.start; simp
    show tb _ _ _ _
    unfold mSaid at hmm
    cases hrt : r τ with
    | none =>
      rw [hrt] at hmm
      simp only [Option.map_eq_some_iff] at hmm
      obtain ⟨⟨ra, τa⟩, hma, hmz⟩ := hmm
      cases hmz
      refine ⟨fun _ _ _ => False, fun _ _ _ z => z.elim, hz0, hco, .inl ⟨E, τ, ra, _, S1, hma, fun v H' Pp => ?_⟩⟩
      show Q v1 H'
      exact kq v1 H' (B1.comp Pp.b |>.post (post_step Pp.srep .refl (r := .v lt) (hrv _ _ _)))
    | some q =>
      obtain ⟨cc, τa⟩ := q
      rw [hrt] at hmm
      simp only [Option.map_eq_some_iff] at hmm
      obtain ⟨x, hwx, hmz⟩ := hmm
      cases hmz
      obtain ⟨hcc1, hB, hpx, hgo⟩ := hw cc x hwx
      obtain ⟨D0, hD0, _⟩ := F.cls cc hcc1
      refine ⟨fun cls d H' => X.mg cc = some cls ∧ d = none ∧ PostB X.K E τ σ H1 _ H', fun cls d H' z => ?_, hz0, hco, .inr ⟨E, τ, cc, _, _, S1, hrt, hD0, fun H' Pp => ⟨hD0, rfl, Pp⟩⟩⟩
      obtain ⟨z1, z2, z3⟩ := z
      rw [hD0] at z1
      cases z1
      refine ⟨true, by rw [← hB]; exact F.exm cc hcc1 ve hve D0 C hD0 hC, fun _ a na => ?_, fun z => nomatch z⟩
      obtain ⟨τ2, hgo⟩ := hgo a
      refine ⟨cc, hcc1, hD0, z2, fun _ => False, _, _, τ2, rep_tauE hlen hil z3.rep.tb, hgo, ?_⟩
      intro σ2 H2 v Q2 rv
      show Q v H2
      have e2 : Ext nO H' H2 := Q2.ext.wider fun b z => (om_tauE z).elim
      obtain ⟨S2, rp⟩ := rv
      exact kq v H2 (((B1.comp z3).comp ⟨e2.wider fun _ z => z.elim, .refl, z3.rep.grow e2⟩).post (post_step (z3.rep.grow e2) .refl (r := .v x) (pure_any.1 rp hpx _)))
  refine wpAny_call (codeAny_mono rc fun res s2 hq2 => ?_)
  cases res with
  | error e => exact (show False from hq2).elim
  | ok fl =>
    cases fl with
    | ret u => exact I1.after hq2
    | next => exact hq2.elim
    | brk => exact hq2.elim
    | cont => exact hq2.elim
end Iv
set_option Elab.async false
set_option linter.all false
set_option maxRecDepth 100000
set_option maxHeartbeats 2000000
namespace Iv
open PySem L2 PyProof.Rows
variable [Cst]
theorem Rm.hu70 {X : Cx} {k : Nat} (r : Rm X k) : X.A.units + 70 < cLine := by have := r.hr.un; omega
/-! ### reckoning with what is raised -/
section
variable (τ τ1 : Tau) (i np nN : Nat) (c x : Str) (m : M Rs) (t : M Bool) (a : MS) (ra rb : XS) (re : XT) (g : XS) (es : M (List Rs)) (w : Str → Option Dt) (lt d : Dt) (ad : Addr) (b : Bool) (r : Rs) (rs : List Rs)
@[simp] theorem e_xNo : xNo τ = none := (rfl)
@[simp] theorem e_xRaise : xRaise c τ = some c := (rfl)
@[simp] theorem e_xFirst : xFirst ra τ = ra τ := (rfl)
def kXE : Option (Str × Tau) → Option Str
  | some (c, _) => some c
  | none => none
@[simp] theorem e_xE : xE re τ = kXE (re τ) := by unfold xE; cases re τ <;> rfl
@[simp] theorem kXE_s : kXE (some (c, τ)) = some c := (rfl)
@[simp] theorem kXE_n : kXE none = none := (rfl)
def kXI (ra rb : XS) : OB → Option Str
  | some (true, τ) => ra τ
  | some (false, τ) => rb τ
  | none => none
@[simp] theorem e_xIf : xIf t ra rb τ = kXI ra rb (t τ) := by
  unfold xIf
  cases t τ with
  | none => rfl
  | some p => obtain ⟨b, τ⟩ := p; cases b <;> rfl
@[simp] theorem kXI_t : kXI ra rb (some (true, τ)) = ra τ := (rfl)
@[simp] theorem kXI_f : kXI ra rb (some (false, τ)) = rb τ := (rfl)
def kXS2 (rb : XS) : OS → Option Str
  | some (.nx, τ) => rb τ
  | _ => none
def kXS (a : MS) (rb : XS) (τ : Tau) : Option Str → Option Str
  | some c => some c
  | none => kXS2 rb (a τ)
@[simp] theorem e_xSeq : xSeq a ra rb τ = kXS a rb τ (ra τ) := by
  unfold xSeq
  cases ra τ with
  | some c => rfl
  | none =>
    show (match a τ with | some (.nx, τ') => rb τ' | _ => none) = kXS2 rb (a τ)
    cases a τ with
    | none => rfl
    | some p => obtain ⟨o, τ⟩ := p; cases o <;> rfl
@[simp] theorem kXS_s : kXS a rb τ (some c) = some c := (rfl)
@[simp] theorem kXS_n : kXS a rb τ none = kXS2 rb (a τ) := (rfl)
@[simp] theorem kXS2_1 : kXS2 rb (some (.nx, τ)) = rb τ := (rfl)
@[simp] theorem kXS2_2 : kXS2 rb (some (.rt d b, τ)) = none := (rfl)
@[simp] theorem kXS2_3 : kXS2 rb none = none := (rfl)
theorem e_gX (h : τ.length = np) (h2 : np ≤ nN) (h3 : τ.all shSl = true) : gX np nN rb τ = rb (τ ++ pad (nN - np)) := by
  unfold gX
  rw [if_pos ⟨h, h2, h3⟩, pad_eq]
def kCX3 (τ : Tau) : Option Str → Option (Str × Tau)
  | some c => some (c, τ)
  | none => none
def kCX2 (g : XS) (τ : Tau) : Option Tau → Option (Str × Tau)
  | some τ0 => if τ0.all shSl = true then kCX3 τ (g τ0) else none
  | none => none
def kCX1 (np : Nat) (g : XS) : OA → Option (Str × Tau)
  | some (rs, τ) => if rs.length = np then kCX2 g τ (argsT none rs τ) else none
  | none => none
@[simp] theorem e_mCallX : mCallX np g es τ = kCX1 np g (es τ) := by
  unfold mCallX
  cases es τ with
  | none => rfl
  | some p =>
    obtain ⟨rs, τ⟩ := p
    show (if rs.length = np then (argsT none rs τ).bind _ else none) = if rs.length = np then kCX2 g τ (argsT none rs τ) else none
    congr 1
    cases argsT none rs τ with
    | none => rfl
    | some τ0 =>
      show (if τ0.all shSl = true then (g τ0).map _ else none) = if τ0.all shSl = true then kCX3 τ (g τ0) else none
      cases g τ0 <;> rfl
@[simp] theorem kCX1_s (h : rs.length = np) : kCX1 np g (some (rs, τ)) = kCX2 g τ (argsT none rs τ) := if_pos h
@[simp] theorem kCX2_s (h : τ1.all shSl = true) : kCX2 g τ (some τ1) = kCX3 τ (g τ1) := if_pos h
@[simp] theorem kCX3_s : kCX3 τ (some c) = some (c, τ) := (rfl)
@[simp] theorem kCX3_n : kCX3 τ none = none := (rfl)
@[simp] theorem shSl_s : shSl (.sh d) = true := (rfl)
def kSd2 (τ : Tau) : Option Dt → OR
  | some x => some (.v x, τ)
  | none => none
def kSd3 (lt : Dt) : OR → OR
  | some (_, τ) => some (.v lt, τ)
  | none => none
def kSd (m : M Rs) (w : Str → Option Dt) (lt : Dt) (τ : Tau) : Option (Str × Tau) → OR
  | some (c, τ') => kSd2 τ' (w c)
  | none => kSd3 lt (m τ)
@[simp] theorem e_mSaid : mSaid m re w lt τ = kSd m w lt τ (re τ) := by
  unfold mSaid
  cases re τ with
  | some p => obtain ⟨c, τ'⟩ := p; show (w c).map _ = kSd2 τ' (w c); cases w c <;> rfl
  | none => show (m τ).map _ = kSd3 lt (m τ); cases m τ <;> rfl
@[simp] theorem kSd_s : kSd m w lt τ (some (c, τ1)) = kSd2 τ1 (w c) := (rfl)
@[simp] theorem kSd_n : kSd m w lt τ none = kSd3 lt (m τ) := (rfl)
@[simp] theorem kSd2_s : kSd2 τ (some d) = some (.v d, τ) := (rfl)
@[simp] theorem kSd3_s : kSd3 lt (some (r, τ)) = some (.v lt, τ) := (rfl)
def kIE (ad : Addr) (b : Bool) (τ : Tau) : Option Sl → OR
  | some (.ad a') => if a' = ad then some (.v (.bool b), τ) else none
  | _ => none
@[simp] theorem e_mIsE : mIsE i ad b τ = kIE ad b τ τ[i]? := by
  unfold mIsE
  cases τ[i]? with
  | none => rfl
  | some u => cases u <;> rfl
@[simp] theorem kIE_s : kIE ad b τ (some (.ad ad)) = some (.v (.bool b), τ) := if_pos rfl
@[simp] theorem v_is1 (d : Dt) (h : ∀ b, d ≠ .bool b) : dIs d .none = some (.v (.bool (isN d))) := by cases d <;> first | rfl | exact absurd rfl (h _)
@[simp] theorem isN_n : isN .none = true := (rfl)
@[simp] theorem isN_i (j : Int) : isN (.int j) = false := (rfl)
@[simp] theorem isN_b (j : Bool) : isN (.bool j) = false := (rfl)
@[simp] theorem isN_s (j : Str) : isN (.str j) = false := (rfl)
@[simp] theorem isN_t (j : List Dt) : isN (.tuple j) = false := (rfl)
@[simp] theorem isN_l (j : List Dt) : isN (.list j) = false := (rfl)
end
/-! ### ints sorted, the least, the greatest -/
section
open PySem.W (dataLt dataLe alike minD maxD)
@[simp] theorem alike_i (i j : Int) : alike (.int i) (.int j) = true := by simp [alike]
theorem dataLt_i (i j : Int) : dataLt (.int i) (.int j) = decide (i < j) := PySem.W.dataLt_int i j
theorem dataLe_lt (d e : Dt) : dataLe false id d e = !dataLt e d := rfl
theorem alike_ints (l : List Int) : alikeL (l.map .int) = true := by
  unfold alikeL
  rw [List.all_eq_true]
  intro d hd
  obtain ⟨i, _, rfl⟩ := List.mem_map.mp hd
  rw [List.all_eq_true]
  intro e he
  obtain ⟨j, _, rfl⟩ := List.mem_map.mp he
  exact alike_i i j
def sortI (l : List Int) : List Int := l.mergeSort fun a b => decide (a ≤ b)
theorem sortD_ints (l : List Int) : sortD (l.map .int) = (sortI l).map .int := by
  unfold sortD sortI
  rw [List.map_mergeSort]
  intro a _ b _
  rw [dataLe_lt, dataLt_i]
  by_cases h : a ≤ b
  · rw [decide_eq_true h, decide_eq_false (by omega)]; rfl
  · rw [decide_eq_false h, decide_eq_true (by omega)]; rfl
theorem okSort_ints (l : List Int) : okSort (l.map .int) = true := by
  unfold okSort
  rw [alike_ints, (shaped_ints l).1]
  have : sortB (l.map .int) = true := by
    unfold sortB
    rw [Bool.or_eq_true]
    right
    rw [List.all_eq_true]
    intro d hd
    obtain ⟨i, _, rfl⟩ := List.mem_map.mp hd
    rfl
  rw [this]
  rfl
@[simp] theorem v_sortL (l : List Int) : fSorted [.list (l.map .int)] = some (.nw (.list ((sortI l).map .int))) := by
  show (if _ then _ else _) = _
  rw [if_pos (okSort_ints l), sortD_ints]
@[simp] theorem v_sortT (l : List Int) : fSorted [.tuple (l.map .int)] = some (.nw (.list ((sortI l).map .int))) := by
  show (if _ then _ else _) = _
  rw [if_pos (okSort_ints l), sortD_ints]
theorem okMM_ints (l : List Int) : okMM (l.map .int) = true := by
  unfold okMM
  rw [alike_ints, (shaped_ints l).1]
  have : ((l.map PyData.int).all fun d => !isN d) = true := by
    rw [List.all_eq_true]
    intro d hd
    obtain ⟨i, _, rfl⟩ := List.mem_map.mp hd
    rfl
  rw [this]
  rfl
def minI (n : Int) (l : List Int) : Int := l.foldl (fun a y => if y < a then y else a) n
def maxI (n : Int) (l : List Int) : Int := l.foldl (fun a y => if a < y then y else a) n
theorem minD_ints : ∀ (l : List Int) (n : Int), minD (.int n) (l.map .int) = .int (minI n l) := by
  intro l
  unfold minD minI
  induction l with
  | nil => intro n; rfl
  | cons y l ih =>
    intro n
    rw [List.map_cons, List.foldl_cons, List.foldl_cons, dataLt_i]
    by_cases h : y < n
    · rw [if_pos (decide_eq_true h), if_pos h, ih]
    · rw [if_neg (by simpa using h), if_neg h, ih]
theorem maxD_ints : ∀ (l : List Int) (n : Int), maxD (.int n) (l.map .int) = .int (maxI n l) := by
  intro l
  unfold maxD maxI
  induction l with
  | nil => intro n; rfl
  | cons y l ih =>
    intro n
    rw [List.map_cons, List.foldl_cons, List.foldl_cons, dataLt_i]
    by_cases h : n < y
    · rw [if_pos (decide_eq_true h), if_pos h, ih]
    · rw [if_neg (by simpa using h), if_neg h, ih]
theorem v_minL (n : Int) (l : List Int) : fMin [.list ((n :: l).map .int)] = some (.v (.int (minI n l))) := by
  have h := okMM_ints (n :: l)
  rw [List.map_cons] at h ⊢
  show (if _ then _ else _) = _
  rw [if_pos h, minD_ints]
theorem v_maxL (n : Int) (l : List Int) : fMax [.list ((n :: l).map .int)] = some (.v (.int (maxI n l))) := by
  have h := okMM_ints (n :: l)
  rw [List.map_cons] at h ⊢
  show (if _ then _ else _) = _
  rw [if_pos h, maxD_ints]
theorem v_minT (n : Int) (l : List Int) : fMin [.tuple ((n :: l).map .int)] = some (.v (.int (minI n l))) := by
  have h := okMM_ints (n :: l)
  rw [List.map_cons] at h ⊢
  show (if _ then _ else _) = _
  rw [if_pos h, minD_ints]
theorem v_maxT (n : Int) (l : List Int) : fMax [.tuple ((n :: l).map .int)] = some (.v (.int (maxI n l))) := by
  have h := okMM_ints (n :: l)
  rw [List.map_cons] at h ⊢
  show (if _ then _ else _) = _
  rw [if_pos h, maxD_ints]
@[simp] theorem v_min2' (i j : Int) : fMin [.int i, .int j] = some (.v (.int (if j < i then j else i))) := (rfl)
@[simp] theorem v_max2' (i j : Int) : fMax [.int i, .int j] = some (.v (.int (if j > i then j else i))) := (rfl)
theorem minI_le : ∀ (l : List Int) (n : Int), minI n l ≤ n ∧ ∀ x ∈ l, minI n l ≤ x
  | [], n => ⟨Int.le_refl _, fun x h => by cases h⟩
  | y :: l, n => by
    have h := minI_le l (if y < n then y else n)
    have e : minI n (y :: l) = minI (if y < n then y else n) l := rfl
    rw [e]
    refine ⟨?_, fun x hx => ?_⟩
    · have := h.1; split at this <;> omega
    · rcases List.mem_cons.mp hx with rfl | hx
      · have := h.1; split at this <;> omega
      · exact h.2 x hx
theorem minI_mem : ∀ (l : List Int) (n : Int), minI n l = n ∨ minI n l ∈ l
  | [], n => .inl rfl
  | y :: l, n => by
    have e : minI n (y :: l) = minI (if y < n then y else n) l := rfl
    rw [e]
    rcases minI_mem l (if y < n then y else n) with h | h
    · rw [h]; split
      · exact .inr (List.mem_cons_self ..)
      · exact .inl rfl
    · exact .inr (List.mem_cons_of_mem _ h)
theorem maxI_le : ∀ (l : List Int) (n : Int), n ≤ maxI n l ∧ ∀ x ∈ l, x ≤ maxI n l
  | [], n => ⟨Int.le_refl _, fun x h => by cases h⟩
  | y :: l, n => by
    have h := maxI_le l (if n < y then y else n)
    have e : maxI n (y :: l) = maxI (if n < y then y else n) l := rfl
    rw [e]
    refine ⟨?_, fun x hx => ?_⟩
    · have := h.1; split at this <;> omega
    · rcases List.mem_cons.mp hx with rfl | hx
      · have := h.1; split at this <;> omega
      · exact h.2 x hx
theorem maxI_mem : ∀ (l : List Int) (n : Int), maxI n l = n ∨ maxI n l ∈ l
  | [], n => .inl rfl
  | y :: l, n => by
    have e : maxI n (y :: l) = maxI (if n < y then y else n) l := rfl
    rw [e]
    rcases maxI_mem l (if n < y then y else n) with h | h
    · rw [h]; split
      · exact .inr (List.mem_cons_self ..)
      · exact .inl rfl
    · exact .inr (List.mem_cons_of_mem _ h)
theorem sortI_perm (l : List Int) : (sortI l).Perm l := List.mergeSort_perm _ _
theorem sortI_sorted (l : List Int) : (sortI l).Pairwise (· ≤ ·) := by
  have := List.pairwise_mergeSort (le := fun (a b : Int) => decide (a ≤ b)) (fun a b c h1 h2 => by simp only [decide_eq_true_eq] at *; omega) (fun a b => by simp only [Bool.or_eq_true, decide_eq_true_eq]; omega) l
  exact this.imp fun h => by simpa using h
end
end Iv
set_option Elab.async false
set_option linter.all false
set_option maxRecDepth 100000
set_option maxHeartbeats 2000000
namespace Iv
open PySem L2 PyProof.Rows
variable [Cst]
def xtNo : XT := fun _ => none
@[simp] theorem e_xtNo (τ : Tau) : xtNo τ = none := (rfl)
theorem ex_no {X : Cx} {e : Expr} : EX X e xtNo := ⟨fun W tk => ⟨fun pins s σ H Q I h => by obtain ⟨E, τ, c, τ', v, S, hm, _⟩ := h; cases hm⟩⟩
/-! ### flags counted -/
def isBl : Dt → Bool
  | .bool _ => true
  | _ => false
def cntB (b : Bool) : List Dt → Nat
  | [] => 0
  | .bool c :: r => (if c == b then 1 else 0) + cntB b r
  | _ :: r => cntB b r
def fndB (b : Bool) : List Dt → Option Nat
  | [] => none
  | .bool c :: r => if c == b then some 0 else (fndB b r).map (· + 1)
  | _ :: r => (fndB b r).map (· + 1)
@[simp] theorem isBl_b (b : Bool) : isBl (.bool b) = true := (rfl)
@[simp] theorem cntB_n (b : Bool) : cntB b [] = 0 := (rfl)
@[simp] theorem cntB_c (b c : Bool) (r : List Dt) : cntB b (.bool c :: r) = (if c == b then 1 else 0) + cntB b r := (rfl)
@[simp] theorem fndB_n (b : Bool) : fndB b [] = none := (rfl)
@[simp] theorem fndB_c (b c : Bool) (r : List Dt) : fndB b (.bool c :: r) = if c == b then some 0 else (fndB b r).map (· + 1) := (rfl)
theorem bl_map : ∀ {ds : List Dt}, ds.all isBl = true → ∃ l : List Bool, ds = l.map .bool
  | [], _ => ⟨[], rfl⟩
  | d :: ds, h => by
    rw [List.all_cons, Bool.and_eq_true] at h
    obtain ⟨l, rfl⟩ := bl_map h.2
    cases d with
    | bool b => exact ⟨b :: l, rfl⟩
    | _ => cases h.1
theorem cntB_l (b : Bool) : ∀ l : List Bool, (l.map PyData.bool).countP (fun z => PyData.eqv z (.bool b)) = cntB b (l.map .bool)
  | [] => rfl
  | c :: l => by
    rw [List.map_cons, List.countP_cons, cntB_l b l, cntB_c, eqv_bb, Nat.add_comm]
theorem fndB_l (b : Bool) : ∀ l : List Bool, (l.map PyData.bool).findIdx? (fun z => PyData.eqv z (.bool b)) = fndB b (l.map .bool)
  | [] => rfl
  | c :: l => by
    rw [List.map_cons, List.findIdx?_cons, fndB_l b l, fndB_c, eqv_bb]
theorem shaped_bls (l : List Bool) : SeqAt.shaped (.list (l.map .bool)) = true ∧ SeqAt.shaped (.tuple (l.map .bool)) = true := shaped_map (k := 0) (fun x => by simp [PyData.canLay0]) (fun x => by simp [PyData.depth]) (by decide) l
@[simp] theorem v_cntB (ds : List Dt) (b : Bool) (h : ds.all isBl = true) : fCntL (.list ds) [.bool b] = some (.v (.int (cntB b ds : Nat))) := by
  obtain ⟨l, rfl⟩ := bl_map h
  show (if _ then _ else _) = _
  rw [if_pos ⟨shaped_bool b, (shaped_bls l).1⟩, cntB_l]
@[simp] theorem v_fndB (ds : List Dt) (b : Bool) (h : ds.all isBl = true) : fFndL (.list ds) [.bool b] = (fndB b ds).map fun (j : Nat) => .v (.int j) := by
  obtain ⟨l, rfl⟩ := bl_map h
  show (if _ then _ else _) = _
  rw [if_pos ⟨shaped_bool b, (shaped_bls l).1⟩, fndB_l]
end Iv
set_option Elab.async false
set_option linter.all false
set_option maxRecDepth 100000
set_option maxHeartbeats 2000000
namespace Iv
open PySem L2 PyProof.Rows
variable [Cst]
def drawBA : MS := (mSeq (mIf (mAnd (mFlag (mBin dEq (mBin dIxA (mName 0) (mK (.int 2))) (mK (.int 0)))) (mFlag (mBin dLtD (mBin dIxA (mName 0) (mK (.int 1))) (mCall fLen (mA (mBin dIxA (mName 0) (mK (.int 0))) mA0))))) (mSeq (mSet 2 (mBin dIxA (mBin dIxA (mName 0) (mK (.int 0))) (mBin dIxA (mName 0) (mK (.int 1)))))
  (mSeq (mSetIt 0 (mK (.int 1)) (mBin dAdd (mBin dIxA (mName 0) (mK (.int 1))) (mK (.int 1))))
  (mSeq (mSetIt 0 (mK (.int 3)) (mBin dMod (mCall fInt (mA (mBin dAdd (mBin dAdd (mBin dMul (mBin dIxA (mName 0) (mK (.int 3))) (mK (.int 69621))) (mBin dMul (mName 2) (mK (.int 40692)))) (mK (.int 31))) mA0)) (mK (.int 2147483629))))
  (mIf (mFlag (mBin dGeD (mName 2) (mBin dPow (mK (.int 10)) (mK (.int 18))))) (mSetIt 0 (mK (.int 2)) (mName 2)) mNx)))) mNx)
  (mSeq (mIf (mFlag (mBin dGtD (mBin dIxA (mName 0) (mK (.int 2))) (mK (.int 0)))) (mSeq (mSet 3 (mBin dMod (mCall fInt (mA (mBin dIxA (mName 0) (mK (.int 2))) mA0)) (mName 1)))
  (mSeq (mSetIt 0 (mK (.int 2)) (mBin dDiv (mBin dIxA (mName 0) (mK (.int 2))) (mName 1)))
  (mRet (mName 3)))) mNx)
  (mSeq (mSetIt 0 (mK (.int 4)) (mBin dAdd (mBin dIxA (mName 0) (mK (.int 4))) (mK (.int 1))))
  (mSeq (mSet 4 (mBin dMod (mCall fInt (mA (mBin dMul (mCall fInt (mA (mBin dAdd (mBin dIxA (mName 0) (mK (.int 3))) (mBin dMul (mK (.int 7919)) (mBin dIxA (mName 0) (mK (.int 4))))) mA0)) (mK (.int 48271))) mA0)) (mK (.int 2147483647))))
  (mSeq (mSet 4 (mBin dMod (mCall fInt (mA (mBin dMul (mName 4) (mBin dAdd (mBin dDiv (mName 4) (mK (.int 1009))) (mK (.int 69621)))) mA0)) (mK (.int 2147483647))))
  (mSeq (mSet 4 (mBin dMod (mCall fInt (mA (mBin dMul (mName 4) (mBin dAdd (mBin dDiv (mName 4) (mK (.int 2003))) (mK (.int 40014)))) mA0)) (mK (.int 2147483563))))
  (mRet (mBin dMod (mCall fInt (mA (mBin dDiv (mName 4) (mK (.int 16))) mA0)) (mName 1)))))))))
def drawFA : M (Dt × Bool) := gFn 2 5 drawBA
def drawBB (cc : Int) : MS := (mSeq (mIf (mAnd (mFlag (mBin dEq (mBin dIxA (mName 0) (mK (.int 2))) (mK (.int 0)))) (mFlag (mBin dLtD (mBin dIxA (mName 0) (mK (.int 1))) (mCall fLen (mA (mBin dIxA (mName 0) (mK (.int 0))) mA0))))) (mSeq (mSet 2 (mBin dIxA (mBin dIxA (mName 0) (mK (.int 0))) (mBin dIxA (mName 0) (mK (.int 1)))))
  (mSeq (mSetIt 0 (mK (.int 1)) (mBin dAdd (mBin dIxA (mName 0) (mK (.int 1))) (mK (.int 1))))
  (mSeq (mSetIt 0 (mK (.int 3)) (mBin dMod (mCall fInt (mA (mBin dAdd (mBin dAdd (mBin dMul (mBin dIxA (mName 0) (mK (.int 3))) (mK (.int 69621))) (mName 2)) (mK (.int cc))) mA0)) (mK (.int 2147483629))))
  (mIf (mFlag (mBin dGeD (mName 2) (mBin dPow (mK (.int 10)) (mK (.int 18))))) (mSetIt 0 (mK (.int 2)) (mName 2)) mNx)))) mNx)
  (mSeq (mIf (mFlag (mBin dGtD (mBin dIxA (mName 0) (mK (.int 2))) (mK (.int 0)))) (mSeq (mSet 3 (mBin dMod (mCall fInt (mA (mBin dIxA (mName 0) (mK (.int 2))) mA0)) (mName 1)))
  (mSeq (mSetIt 0 (mK (.int 2)) (mBin dDiv (mBin dIxA (mName 0) (mK (.int 2))) (mName 1)))
  (mRet (mName 3)))) mNx)
  (mSeq (mSetIt 0 (mK (.int 4)) (mBin dAdd (mBin dIxA (mName 0) (mK (.int 4))) (mK (.int 1))))
  (mSeq (mSet 4 (mBin dMod (mCall fInt (mA (mBin dMul (mCall fInt (mA (mBin dAdd (mBin dIxA (mName 0) (mK (.int 3))) (mBin dMul (mK (.int 7919)) (mBin dIxA (mName 0) (mK (.int 4))))) mA0)) (mK (.int 48271))) mA0)) (mK (.int 2147483647))))
  (mSeq (mSet 4 (mBin dMod (mCall fInt (mA (mBin dMul (mName 4) (mBin dAdd (mBin dDiv (mName 4) (mK (.int 1009))) (mK (.int 69621)))) mA0)) (mK (.int 2147483647))))
  (mSeq (mSet 4 (mBin dMod (mCall fInt (mA (mBin dMul (mName 4) (mBin dAdd (mBin dDiv (mName 4) (mK (.int 2003))) (mK (.int 40692)))) mA0)) (mK (.int 2147483399))))
  (mRet (mBin dMod (mCall fInt (mA (mBin dDiv (mName 4) (mK (.int 16))) mA0)) (mName 1)))))))))
def drawFB (cc : Int) : M (Dt × Bool) := gFn 2 5 (drawBB cc)
theorem draw_specA0 (h : Hand) (ok : h.Ok) (many : Int) (h0 : 0 < many) (h1 : many < 2 ^ 62) : ∃ (r : Int) (h' : Hand), drawFA [.ow true h.d, .sh (.int many)] = some ((.int r, false), [.ow true h'.d, .un]) ∧ 0 ≤ r ∧ r < many ∧ h'.Ok := by
  obtain ⟨cells, i, left, seed, cnt⟩ := h
  have od := okDiv_s many h0 h1
  have e0 : drawFA [.ow true (Hand.d ⟨cells, i, left, seed, cnt⟩), .sh (.int many)] = kFn [.ow true (Hand.d ⟨cells, i, left, seed, cnt⟩), .sh (.int many)] (drawBA [.ow true (Hand.d ⟨cells, i, left, seed, cnt⟩), .sh (.int many), .un, .un, .un]) := e_gFn _ _ _ _ rfl (by decide) rfl
  rw [e0]
  unfold drawBA
  have hl0 : 0 ≤ left := ok.left
  by_cases hl : left = 0
  · subst hl
    by_cases hi : (i : Int) < cells.length
    · have hi' : i < cells.length := by omega
      have ha : atI (cells.map PyData.int) (i : Int) = some (.int cells[i]) := atI_nat (by rw [List.getElem?_map, List.getElem?_eq_getElem hi']; rfl)
      have hc := ok.pos cells[i] (List.getElem_mem hi')
      by_cases hb : 1000000000000000000 ≤ cells[i]
      · have hp : 0 < cells[i] := by omega
        simp [Hand.d, hi, h0, od, ha, pow18, hb, hp]
        exact ⟨_, ⟨cells, i + 1, _, _, cnt⟩, ⟨rfl, rfl, by simp, rfl, rfl, rfl⟩, Int.emod_nonneg _ (by omega), Int.emod_lt_of_pos _ h0, ok.pos, Int.ediv_nonneg hc (by omega)⟩
      · simp [Hand.d, hi, h0, od, ha, pow18, hb]
        exact ⟨_, ⟨cells, i + 1, 0, _, _⟩, ⟨rfl, rfl, by simp, rfl, rfl, rfl⟩, Int.emod_nonneg _ (by omega), Int.emod_lt_of_pos _ h0, ok.pos, by simp⟩
    · simp [Hand.d, hi, h0, od]
      exact ⟨_, ⟨cells, i, 0, _, _⟩, ⟨rfl, rfl, by simp, rfl, rfl, rfl⟩, Int.emod_nonneg _ (by omega), Int.emod_lt_of_pos _ h0, ok.pos, by simp⟩
  · have hp : 0 < left := by omega
    simp [Hand.d, hl, hp, h0, od]
    exact ⟨_, ⟨cells, i, _, _, _⟩, ⟨rfl, rfl, by simp, rfl, rfl, rfl⟩, Int.emod_nonneg _ (by omega), Int.emod_lt_of_pos _ h0, ok.pos, Int.ediv_nonneg hl0 (by omega)⟩
theorem draw_specB0 (cc : Int) (h : Hand) (ok : h.Ok) (many : Int) (h0 : 0 < many) (h1 : many < 2 ^ 62) : ∃ (r : Int) (h' : Hand), drawFB cc [.ow true h.d, .sh (.int many)] = some ((.int r, false), [.ow true h'.d, .un]) ∧ 0 ≤ r ∧ r < many ∧ h'.Ok := by
  obtain ⟨cells, i, left, seed, cnt⟩ := h
  have od := okDiv_s many h0 h1
  have e0 : drawFB cc [.ow true (Hand.d ⟨cells, i, left, seed, cnt⟩), .sh (.int many)] = kFn [.ow true (Hand.d ⟨cells, i, left, seed, cnt⟩), .sh (.int many)] (drawBB cc [.ow true (Hand.d ⟨cells, i, left, seed, cnt⟩), .sh (.int many), .un, .un, .un]) := e_gFn _ _ _ _ rfl (by decide) rfl
  rw [e0]
  unfold drawBB
  have hl0 : 0 ≤ left := ok.left
  by_cases hl : left = 0
  · subst hl
    by_cases hi : (i : Int) < cells.length
    · have hi' : i < cells.length := by omega
      have ha : atI (cells.map PyData.int) (i : Int) = some (.int cells[i]) := atI_nat (by rw [List.getElem?_map, List.getElem?_eq_getElem hi']; rfl)
      have hc := ok.pos cells[i] (List.getElem_mem hi')
      by_cases hb : 1000000000000000000 ≤ cells[i]
      · have hp : 0 < cells[i] := by omega
        simp [Hand.d, hi, h0, od, ha, pow18, hb, hp]
        exact ⟨_, ⟨cells, i + 1, _, _, cnt⟩, ⟨rfl, rfl, by simp, rfl, rfl, rfl⟩, Int.emod_nonneg _ (by omega), Int.emod_lt_of_pos _ h0, ok.pos, Int.ediv_nonneg hc (by omega)⟩
      · simp [Hand.d, hi, h0, od, ha, pow18, hb]
        exact ⟨_, ⟨cells, i + 1, 0, _, _⟩, ⟨rfl, rfl, by simp, rfl, rfl, rfl⟩, Int.emod_nonneg _ (by omega), Int.emod_lt_of_pos _ h0, ok.pos, by simp⟩
    · simp [Hand.d, hi, h0, od]
      exact ⟨_, ⟨cells, i, 0, _, _⟩, ⟨rfl, rfl, by simp, rfl, rfl, rfl⟩, Int.emod_nonneg _ (by omega), Int.emod_lt_of_pos _ h0, ok.pos, by simp⟩
  · have hp : 0 < left := by omega
    simp [Hand.d, hl, hp, h0, od]
    exact ⟨_, ⟨cells, i, _, _, _⟩, ⟨rfl, rfl, by simp, rfl, rfl, rfl⟩, Int.emod_nonneg _ (by omega), Int.emod_lt_of_pos _ h0, ok.pos, Int.ediv_nonneg hl0 (by omega)⟩
theorem draw_specA (h : Hand) (ok : h.Ok) (many : Int) (h0 : 0 < many) (h1 : many < 2 ^ 62) : ∃ (r : Nat) (h' : Hand), drawFA [.ow true h.d, .sh (.int many)] = some ((.int (r : Int), false), [.ow true h'.d, .un]) ∧ (r : Int) < many ∧ h'.Ok := by
  obtain ⟨r, h', e, r0, r1, ok'⟩ := draw_specA0 h ok many h0 h1
  obtain ⟨n, rfl⟩ := Int.eq_ofNat_of_zero_le r0
  exact ⟨n, h', e, r1, ok'⟩
theorem draw_specB (cc : Int) (h : Hand) (ok : h.Ok) (many : Int) (h0 : 0 < many) (h1 : many < 2 ^ 62) : ∃ (r : Nat) (h' : Hand), drawFB cc [.ow true h.d, .sh (.int many)] = some ((.int (r : Int), false), [.ow true h'.d, .un]) ∧ (r : Int) < many ∧ h'.Ok := by
  obtain ⟨r, h', e, r0, r1, ok'⟩ := draw_specB0 cc h ok many h0 h1
  obtain ⟨n, rfl⟩ := Int.eq_ofNat_of_zero_le r0
  exact ⟨n, h', e, r1, ok'⟩
/-! one of some -/
def someB (dr : M (Dt × Bool)) : MS := (mRet (mBin dIxA (mName 1) (mCallF 2 dr (some 0) (mA (mName 0) (mA (mCall fLen (mA (mName 1) mA0)) mA0)))))
def someF (dr : M (Dt × Bool)) : M (Dt × Bool) := gFn 2 2 (someB dr)
/-- what a draw promises -/
def DrawOk (dr : M (Dt × Bool)) : Prop := ∀ (h : Hand), h.Ok → ∀ many : Int, 0 < many → many < 2 ^ 62 → ∃ (r : Nat) (h' : Hand), dr [.ow true h.d, .sh (.int many)] = some ((.int (r : Int), false), [.ow true h'.d, .un]) ∧ (r : Int) < many ∧ h'.Ok
theorem some_spec {dr : M (Dt × Bool)} (D : DrawOk dr) (h : Hand) (ok : h.Ok) (ds : List Dt) (h0 : ds ≠ []) (h1 : ds.length ≤ 100000) : ∃ d ∈ ds, ∃ h' : Hand, h'.Ok ∧ someF dr [.ow true h.d, .sh (.list ds)] = some ((d, false), [.ow true h'.d, .un]) := by
  have hp : 0 < ds.length := List.length_pos_iff.mpr h0
  obtain ⟨r, h', e, r1, ok'⟩ := D h ok (ds.length : Int) (by omega) (by omega)
  have hr : r < ds.length := by omega
  refine ⟨ds[r], List.getElem_mem hr, h', ok', ?_⟩
  have e0 : someF dr [.ow true h.d, .sh (.list ds)] = kFn [.ow true h.d, .sh (.list ds)] (someB dr [.ow true h.d, .sh (.list ds)]) := e_gFn _ _ _ _ rfl (by decide) rfl
  have ha : atI ds (r : Int) = some ds[r] := atI_nat (List.getElem?_eq_getElem hr)
  rw [e0]
  unfold someB
  simp [e, ha]
theorem some_specT {dr : M (Dt × Bool)} (D : DrawOk dr) (h : Hand) (ok : h.Ok) (ds : List Dt) (h0 : ds ≠ []) (h1 : ds.length ≤ 100000) : ∃ d ∈ ds, ∃ h' : Hand, h'.Ok ∧ someF dr [.ow true h.d, .sh (.tuple ds)] = some ((d, false), [.ow true h'.d, .un]) := by
  have hp : 0 < ds.length := List.length_pos_iff.mpr h0
  obtain ⟨r, h', e, r1, ok'⟩ := D h ok (ds.length : Int) (by omega) (by omega)
  have hr : r < ds.length := by omega
  refine ⟨ds[r], List.getElem_mem hr, h', ok', ?_⟩
  have e0 : someF dr [.ow true h.d, .sh (.tuple ds)] = kFn [.ow true h.d, .sh (.tuple ds)] (someB dr [.ow true h.d, .sh (.tuple ds)]) := e_gFn _ _ _ _ rfl (by decide) rfl
  have ha : atI ds (r : Int) = some ds[r] := atI_nat (List.getElem?_eq_getElem hr)
  rw [e0]
  unfold someB
  simp [e, ha]
/-! tests on things of any kind -/
def intB : MS := (mRet (mAndV (mUn (fIsi "int") (mName 0)) (mNotV (mUn (fIsi "bool") (mName 0)))))
def isInt : Dt → Bool
  | .int _ => true
  | _ => false
end Iv
set_option Elab.async false
set_option linter.all false
set_option maxRecDepth 100000
set_option maxHeartbeats 2000000
namespace Iv
open PySem L2 PyProof.Rows
variable [Cst]
def isIB : Dt → Bool
  | .int _ => true
  | .bool _ => true
  | _ => false
def isTp : Dt → Bool
  | .tuple _ => true
  | _ => false
def isLs : Dt → Bool
  | .list _ => true
  | _ => false
def isSt : Dt → Bool
  | .str _ => true
  | _ => false
def noD : Dt → Bool
  | .dict _ => false
  | _ => true
@[simp] theorem isIB_none  : isIB .none = false := (rfl)
@[simp] theorem isIB_bool (b : Bool) : isIB (.bool b) = true := (rfl)
@[simp] theorem isIB_int (i : Int) : isIB (.int i) = true := (rfl)
@[simp] theorem isIB_str (x : Str) : isIB (.str x) = false := (rfl)
@[simp] theorem isIB_list (xs : List Dt) : isIB (.list xs) = false := (rfl)
@[simp] theorem isIB_tuple (xs : List Dt) : isIB (.tuple xs) = false := (rfl)
@[simp] theorem isTp_none  : isTp .none = false := (rfl)
@[simp] theorem isTp_bool (b : Bool) : isTp (.bool b) = false := (rfl)
@[simp] theorem isTp_int (i : Int) : isTp (.int i) = false := (rfl)
@[simp] theorem isTp_str (x : Str) : isTp (.str x) = false := (rfl)
@[simp] theorem isTp_list (xs : List Dt) : isTp (.list xs) = false := (rfl)
@[simp] theorem isTp_tuple (xs : List Dt) : isTp (.tuple xs) = true := (rfl)
@[simp] theorem isLs_none  : isLs .none = false := (rfl)
@[simp] theorem isLs_bool (b : Bool) : isLs (.bool b) = false := (rfl)
@[simp] theorem isLs_int (i : Int) : isLs (.int i) = false := (rfl)
@[simp] theorem isLs_str (x : Str) : isLs (.str x) = false := (rfl)
@[simp] theorem isLs_list (xs : List Dt) : isLs (.list xs) = true := (rfl)
@[simp] theorem isLs_tuple (xs : List Dt) : isLs (.tuple xs) = false := (rfl)
@[simp] theorem isSt_none  : isSt .none = false := (rfl)
@[simp] theorem isSt_bool (b : Bool) : isSt (.bool b) = false := (rfl)
@[simp] theorem isSt_int (i : Int) : isSt (.int i) = false := (rfl)
@[simp] theorem isSt_str (x : Str) : isSt (.str x) = true := (rfl)
@[simp] theorem isSt_list (xs : List Dt) : isSt (.list xs) = false := (rfl)
@[simp] theorem isSt_tuple (xs : List Dt) : isSt (.tuple xs) = false := (rfl)
@[simp] theorem noD_none  : noD .none = true := (rfl)
@[simp] theorem noD_bool (b : Bool) : noD (.bool b) = true := (rfl)
@[simp] theorem noD_int (i : Int) : noD (.int i) = true := (rfl)
@[simp] theorem noD_str (x : Str) : noD (.str x) = true := (rfl)
@[simp] theorem noD_list (xs : List Dt) : noD (.list xs) = true := (rfl)
@[simp] theorem noD_tuple (xs : List Dt) : noD (.tuple xs) = true := (rfl)
@[simp] theorem isInt_none  : isInt .none = false := (rfl)
@[simp] theorem isBl_none  : isBl .none = false := (rfl)
@[simp] theorem isInt_bool (b : Bool) : isInt (.bool b) = false := (rfl)
@[simp] theorem isInt_int (i : Int) : isInt (.int i) = true := (rfl)
@[simp] theorem isBl_int (i : Int) : isBl (.int i) = false := (rfl)
@[simp] theorem isInt_str (x : Str) : isInt (.str x) = false := (rfl)
@[simp] theorem isBl_str (x : Str) : isBl (.str x) = false := (rfl)
@[simp] theorem isInt_list (xs : List Dt) : isInt (.list xs) = false := (rfl)
@[simp] theorem isBl_list (xs : List Dt) : isBl (.list xs) = false := (rfl)
@[simp] theorem isInt_tuple (xs : List Dt) : isInt (.tuple xs) = false := (rfl)
@[simp] theorem isBl_tuple (xs : List Dt) : isBl (.tuple xs) = false := (rfl)
theorem isi_int (d : Dt) (h : noD d = true) : fIsi "int" d = some (.v (.bool (isIB d))) := by
  have k0 : kitB "NoneType" "int" = some false := by decide +kernel
  have k1 : kitB "bool" "int" = some true := by decide +kernel
  have k2 : kitB "int" "int" = some true := by decide +kernel
  have k3 : kitB "str" "int" = some false := by decide +kernel
  have k4 : kitB "list" "int" = some false := by decide +kernel
  have k5 : kitB "tuple" "int" = some false := by decide +kernel
  cases d with
  | none => unfold fIsi; simp [tyD, k0, isIB]
  | bool b => unfold fIsi; simp [tyD, k1, isIB]
  | int i => unfold fIsi; simp [tyD, k2, isIB]
  | str x => unfold fIsi; simp [tyD, k3, isIB]
  | list xs => unfold fIsi; simp [tyD, k4, isIB]
  | tuple xs => unfold fIsi; simp [tyD, k5, isIB]
  | dict xs => cases h
theorem isi_bool (d : Dt) (h : noD d = true) : fIsi "bool" d = some (.v (.bool (isBl d))) := by
  have k0 : kitB "NoneType" "bool" = some false := by decide +kernel
  have k1 : kitB "bool" "bool" = some true := by decide +kernel
  have k2 : kitB "int" "bool" = some false := by decide +kernel
  have k3 : kitB "str" "bool" = some false := by decide +kernel
  have k4 : kitB "list" "bool" = some false := by decide +kernel
  have k5 : kitB "tuple" "bool" = some false := by decide +kernel
  cases d with
  | none => unfold fIsi; simp [tyD, k0, isBl]
  | bool b => unfold fIsi; simp [tyD, k1, isBl]
  | int i => unfold fIsi; simp [tyD, k2, isBl]
  | str x => unfold fIsi; simp [tyD, k3, isBl]
  | list xs => unfold fIsi; simp [tyD, k4, isBl]
  | tuple xs => unfold fIsi; simp [tyD, k5, isBl]
  | dict xs => cases h
theorem isi_tuple (d : Dt) (h : noD d = true) : fIsi "tuple" d = some (.v (.bool (isTp d))) := by
  have k0 : kitB "NoneType" "tuple" = some false := by decide +kernel
  have k1 : kitB "bool" "tuple" = some false := by decide +kernel
  have k2 : kitB "int" "tuple" = some false := by decide +kernel
  have k3 : kitB "str" "tuple" = some false := by decide +kernel
  have k4 : kitB "list" "tuple" = some false := by decide +kernel
  have k5 : kitB "tuple" "tuple" = some true := by decide +kernel
  cases d with
  | none => unfold fIsi; simp [tyD, k0, isTp]
  | bool b => unfold fIsi; simp [tyD, k1, isTp]
  | int i => unfold fIsi; simp [tyD, k2, isTp]
  | str x => unfold fIsi; simp [tyD, k3, isTp]
  | list xs => unfold fIsi; simp [tyD, k4, isTp]
  | tuple xs => unfold fIsi; simp [tyD, k5, isTp]
  | dict xs => cases h
theorem isi_list (d : Dt) (h : noD d = true) : fIsi "list" d = some (.v (.bool (isLs d))) := by
  have k0 : kitB "NoneType" "list" = some false := by decide +kernel
  have k1 : kitB "bool" "list" = some false := by decide +kernel
  have k2 : kitB "int" "list" = some false := by decide +kernel
  have k3 : kitB "str" "list" = some false := by decide +kernel
  have k4 : kitB "list" "list" = some true := by decide +kernel
  have k5 : kitB "tuple" "list" = some false := by decide +kernel
  cases d with
  | none => unfold fIsi; simp [tyD, k0, isLs]
  | bool b => unfold fIsi; simp [tyD, k1, isLs]
  | int i => unfold fIsi; simp [tyD, k2, isLs]
  | str x => unfold fIsi; simp [tyD, k3, isLs]
  | list xs => unfold fIsi; simp [tyD, k4, isLs]
  | tuple xs => unfold fIsi; simp [tyD, k5, isLs]
  | dict xs => cases h
theorem isi_str (d : Dt) (h : noD d = true) : fIsi "str" d = some (.v (.bool (isSt d))) := by
  have k0 : kitB "NoneType" "str" = some false := by decide +kernel
  have k1 : kitB "bool" "str" = some false := by decide +kernel
  have k2 : kitB "int" "str" = some false := by decide +kernel
  have k3 : kitB "str" "str" = some true := by decide +kernel
  have k4 : kitB "list" "str" = some false := by decide +kernel
  have k5 : kitB "tuple" "str" = some false := by decide +kernel
  cases d with
  | none => unfold fIsi; simp [tyD, k0, isSt]
  | bool b => unfold fIsi; simp [tyD, k1, isSt]
  | int i => unfold fIsi; simp [tyD, k2, isSt]
  | str x => unfold fIsi; simp [tyD, k3, isSt]
  | list xs => unfold fIsi; simp [tyD, k4, isSt]
  | tuple xs => unfold fIsi; simp [tyD, k5, isSt]
  | dict xs => cases h

/-! ### the defs that all laws bring -/
theorem int_spec (d : Dt) (h : noD d = true) : gFn 1 1 intB [.sh d] = some ((.bool (isInt d), false), [.un]) := by
  have e0 : gFn 1 1 intB [.sh d] = kFn [.sh d] (intB [.sh d]) := e_gFn _ _ _ _ rfl (by decide) rfl
  rw [e0]
  unfold intB
  cases d <;> first | (cases h; done) | simp [isi_int, isi_bool]
def withinB : MS := (mRet (mAndV (mCallF 1 (gFn 1 1 intB) none (mA (mName 0) mA0)) (mChain dLeD dLeD (mName 1) (mName 0) (mName 2))))
def inR (d : Dt) (lo hi : Int) : Bool := match d with
  | .int i => decide (lo ≤ i) && decide (i ≤ hi)
  | _ => false
theorem within_spec (d : Dt) (h : noD d = true) (lo hi : Int) : gFn 3 3 withinB [.sh d, .sh (.int lo), .sh (.int hi)] = some ((.bool (inR d lo hi), false), [.un, .un, .un]) := by
  have e0 : gFn 3 3 withinB [.sh d, .sh (.int lo), .sh (.int hi)] = kFn [.sh d, .sh (.int lo), .sh (.int hi)] (withinB [.sh d, .sh (.int lo), .sh (.int hi)]) := e_gFn _ _ _ _ rfl (by decide) rfl
  rw [e0]
  unfold withinB
  cases d with
  | int i => by_cases hl : lo ≤ i <;> simp [int_spec, inR, hl]
  | dict xs => cases h
  | _ => simp [int_spec, inR]
def sizedB : MS := (mRet (mAndV (mUn (fIsi "tuple") (mName 0)) (mChain dLeD dLeD (mName 1) (mCall fLen (mA (mName 0) mA0)) (mName 2))))
def szR (d : Dt) (lo hi : Int) : Bool := match d with
  | .tuple ds => decide (lo ≤ (ds.length : Int)) && decide ((ds.length : Int) ≤ hi)
  | _ => false
theorem sized_spec (d : Dt) (h : noD d = true) (lo hi : Int) : gFn 3 3 sizedB [.sh d, .sh (.int lo), .sh (.int hi)] = some ((.bool (szR d lo hi), false), [.un, .un, .un]) := by
  have e0 : gFn 3 3 sizedB [.sh d, .sh (.int lo), .sh (.int hi)] = kFn [.sh d, .sh (.int lo), .sh (.int hi)] (sizedB [.sh d, .sh (.int lo), .sh (.int hi)]) := e_gFn _ _ _ _ rfl (by decide) rfl
  rw [e0]
  unfold sizedB
  cases d with
  | tuple ds => by_cases hl : lo ≤ (ds.length : Int) <;> simp [isi_tuple, szR, hl]
  | dict xs => cases h
  | _ => simp [isi_tuple, szR]
theorem bls_map {α : Type} (f : α → Bool) : ∀ ds : List α, blsOf (ds.map fun d => PyData.bool (f d)) = some (ds.map f)
  | [] => rfl
  | d :: ds => by rw [List.map_cons, blsOf, bls_map f ds]; rfl
theorem v_allM {α : Type} (f : α → Bool) (ds : List α) : fAll [.list (ds.map fun d => .bool (f d))] = some (.v (.bool (ds.all f))) := by
  rw [v_all, bls_map]
  simp [List.all_map, Function.comp_def]
/-- [.. for d in ds], any things -/
theorem compL_any {vs : List Nat} {b : MB} {t : M Bool} {me : M Rs} {τ : Tau} (g : Dt → Dt) {ds : List Dt} (h : ∀ d ∈ ds, kc1 vs t me (b d τ) = some (some (g d), τ)) (hn : ds.length ≤ 1000) : compL vs b t me ds [] τ = some (ds.map g, τ) := by
  have := compL_all (vs := vs) (b := b) (t := t) (me := me) (τ := τ) (fun d => d) g (xs := ds) h hn
  simpa using this
/-! ### the k-th of a sorted list -/
theorem cnt_sorted : ∀ (l : List Int), l.Pairwise (· ≤ ·) → ∀ (k : Nat) (hk : k < l.length) (y : Int), l[k] ≤ y ↔ k + 1 ≤ l.countP (fun x => decide (x ≤ y))
  | [], _, k, hk, y => by simp at hk
  | a :: l, hp, k, hk, y => by
    rw [List.pairwise_cons] at hp
    obtain ⟨h1, h2⟩ := hp
    rw [List.countP_cons]
    cases k with
    | zero =>
      simp only [List.getElem_cons_zero]
      by_cases h : a ≤ y
      · simp [h]
      · have : l.countP (fun x => decide (x ≤ y)) = 0 := by
          rw [List.countP_eq_zero]
          intro x hx
          have := h1 x hx
          simp; omega
        simp [h, this]
    | succ k =>
      have hk' : k < l.length := by simpa using hk
      have ih := cnt_sorted l h2 k hk' y
      simp only [List.getElem_cons_succ]
      by_cases h : a ≤ y
      · simp [h, ih]
      · have h0 : l.countP (fun x => decide (x ≤ y)) = 0 := by
          rw [List.countP_eq_zero]
          intro x hx
          have := h1 x hx
          simp; omega
        have h3 := h1 l[k] (List.getElem_mem hk')
        simp only [h, h0, decide_false]
        constructor
        · intro z; omega
        · intro z; simp at z
theorem sortI_len (l : List Int) : (sortI l).length = l.length := (sortI_perm l).length_eq
/-- the k-th -/
def kth (l : List Int) (k : Nat) : Int := (sortI l).getD k 0
theorem getD_lt {l : List Int} {k : Nat} (hk : k < l.length) : l.getD k 0 = l[k] := by simp [List.getD, List.getElem?_eq_getElem hk]
theorem kth_le (l : List Int) (k : Nat) (hk : k < l.length) (y : Int) : kth l k ≤ y ↔ k + 1 ≤ l.countP (fun x => decide (x ≤ y)) := by
  have hk' : k < (sortI l).length := by rw [sortI_len]; exact hk
  unfold kth
  rw [getD_lt hk', cnt_sorted _ (sortI_sorted l) k hk' y, (sortI_perm l).countP_eq]
theorem kth_mem (l : List Int) (k : Nat) (hk : k < l.length) : kth l k ∈ l := by
  have hk' : k < (sortI l).length := by rw [sortI_len]; exact hk
  unfold kth
  rw [getD_lt hk']
  exact (sortI_perm l).mem_iff.mp (List.getElem_mem hk')
end Iv
set_option Elab.async false
set_option linter.all false
set_option maxRecDepth 100000
set_option maxHeartbeats 4000000
namespace K50
open PySem L2 Iv PyProof.Rows
instance : Cst := ⟨fun _ => True, false, Str.ofString "law.<locals>.<lambda>"⟩
theorem hC : Cst.tk = true → ∀ a, ¬ Cst.isC a := fun h => absurd h (by decide)
def top (i : Nat) : Stmt := PySem.Challenge.pw_votehouse_k50_whole_votes_passed_on_by_e.main.body.getD i (.Pass ⟨0, 0, 0, 0⟩)
abbrev st_is_integer : Stmt := top 1
theorem sc_is_integer : FnScope ["thing"] ["thing"] (defScope st_is_integer) := ⟨rfl, rfl, rfl, by decide +kernel, rfl, by decide +kernel, by decide +kernel⟩
abbrev st_is_within : Stmt := top 2
theorem sc_is_within : FnScope ["thing", "low", "high"] ["thing", "low", "high"] (defScope st_is_within) := ⟨rfl, rfl, rfl, by decide +kernel, rfl, by decide +kernel, by decide +kernel⟩
abbrev st_is_pass : Stmt := top 14
theorem sc_is_pass : FnScope ["many", "thing"] ["many", "thing"] (defScope st_is_pass) := ⟨rfl, rfl, rfl, by decide +kernel, rfl, by decide +kernel, by decide +kernel⟩
abbrev st_is_sized : Stmt := top 3
theorem sc_is_sized : FnScope ["thing", "low", "high"] ["thing", "low", "high"] (defScope st_is_sized) := ⟨rfl, rfl, rfl, by decide +kernel, rfl, by decide +kernel, by decide +kernel⟩
abbrev st_are_passes : Stmt := top 15
theorem sc_are_passes : FnScope ["thing", "one", "voter"] ["thing"] (defScope st_are_passes) := ⟨rfl, rfl, rfl, by decide +kernel, rfl, by decide +kernel, by decide +kernel⟩
abbrev st_check_passes : Stmt := top 16
theorem sc_check_passes : FnScope ["thing"] ["thing"] (defScope st_check_passes) := ⟨rfl, rfl, rfl, by decide +kernel, rfl, by decide +kernel, by decide +kernel⟩
abbrev st_pass_rounds : Stmt := top 24
theorem sc_pass_rounds : FnScope ["passes", "found", "voter", "row", "here"] ["passes"] (defScope st_pass_rounds) := ⟨rfl, rfl, rfl, by decide +kernel, rfl, by decide +kernel, by decide +kernel⟩
abbrev st_raw_end : Stmt := top 18
theorem sc_raw_end : FnScope ["passes", "voter", "turn"] ["passes", "voter"] (defScope st_raw_end) := ⟨rfl, rfl, rfl, by decide +kernel, rfl, by decide +kernel, by decide +kernel⟩
abbrev st_raw_weights : Stmt := top 20
theorem sc_raw_weights : FnScope ["passes", "found", "voter", "end"] ["passes"] (defScope st_raw_weights) := ⟨rfl, rfl, rfl, by decide +kernel, rfl, by decide +kernel, by decide +kernel⟩
abbrev st_raw_outcome : Stmt := top 22
theorem sc_raw_outcome : FnScope ["passes", "found", "one", "weight"] ["passes"] (defScope st_raw_outcome) := ⟨rfl, rfl, rfl, by decide +kernel, rfl, by decide +kernel, by decide +kernel⟩
abbrev st_outcome : Stmt := top 23
theorem sc_outcome : FnScope ["passes"] ["passes"] (defScope st_outcome) := ⟨rfl, rfl, rfl, by decide +kernel, rfl, by decide +kernel, by decide +kernel⟩
abbrev st_weights : Stmt := top 21
theorem sc_weights : FnScope ["passes"] ["passes"] (defScope st_weights) := ⟨rfl, rfl, rfl, by decide +kernel, rfl, by decide +kernel, by decide +kernel⟩
abbrev st_check_voter : Stmt := top 17
theorem sc_check_voter : FnScope ["many", "voter"] ["many", "voter"] (defScope st_check_voter) := ⟨rfl, rfl, rfl, by decide +kernel, rfl, by decide +kernel, by decide +kernel⟩
abbrev st_end_of : Stmt := top 19
theorem sc_end_of : FnScope ["passes", "voter"] ["passes", "voter"] (defScope st_end_of) := ⟨rfl, rfl, rfl, by decide +kernel, rfl, by decide +kernel, by decide +kernel⟩
abbrev st__law_draw : Stmt := top 27
theorem sc__law_draw : FnScope ["hand", "many", "cell", "digit", "number"] ["hand", "many"] (defScope st__law_draw) := ⟨rfl, rfl, rfl, by decide +kernel, rfl, by decide +kernel, by decide +kernel⟩
abbrev st__law_any : Stmt := top 28
theorem sc__law_any : FnScope ["hand", "some"] ["hand", "some"] (defScope st__law_any) := ⟨rfl, rfl, rfl, by decide +kernel, rfl, by decide +kernel, by decide +kernel⟩
abbrev st__law_no_passes : Stmt := top 33
theorem sc__law_no_passes : FnScope ["hand", "passes", "some"] ["hand", "passes"] (defScope st__law_no_passes) := ⟨rfl, rfl, rfl, by decide +kernel, rfl, by decide +kernel, by decide +kernel⟩
abbrev st__law_is : Stmt := top 29
theorem sc__law_is : FnScope ["came", "due"] ["came", "due"] (defScope st__law_is) := ⟨rfl, rfl, rfl, by decide +kernel, rfl, by decide +kernel, by decide +kernel⟩
abbrev st__law_rounds : Stmt := top 34
theorem sc__law_rounds : FnScope ["passes", "found", "voter", "row"] ["passes"] (defScope st__law_rounds) := ⟨rfl, rfl, rfl, by decide +kernel, rfl, by decide +kernel, by decide +kernel⟩
abbrev st__law_end : Stmt := top 32
theorem sc__law_end : FnScope ["passes", "voter", "here", "step"] ["passes", "voter"] (defScope st__law_end) := ⟨rfl, rfl, rfl, by decide +kernel, rfl, by decide +kernel, by decide +kernel⟩
abbrev st__law_passes : Stmt := top 31
theorem sc__law_passes : FnScope ["hand", "n", "found", "way", "voter"] ["hand"] (defScope st__law_passes) := ⟨rfl, rfl, rfl, by decide +kernel, rfl, by decide +kernel, by decide +kernel⟩
abbrev st__law_hand : Stmt := top 26
theorem sc__law_hand : FnScope ["script", "cells", "cell"] ["script"] (defScope st__law_hand) := ⟨rfl, rfl, rfl, by decide +kernel, rfl, by decide +kernel, by decide +kernel⟩
abbrev st__law_word : Stmt := top 30
theorem sc__law_word : FnScope ["call", "error", "flags", "words"] ["call"] (defScope st__law_word) := ⟨rfl, rfl, rfl, by decide +kernel, rfl, by decide +kernel, by decide +kernel⟩
abbrev st_law : Stmt := top 35
theorem sc_law : FnScope ["script", "hand", "turn", "passes", "n", "ends", "counts", "votes", "none", "bad", "words", "voter", "c"] ["script"] (defScope st_law) := ⟨rfl, rfl, rfl, by decide +kernel, rfl, by decide +kernel, by decide +kernel⟩
def CS : List Str := ["VoteError", "NoPasses", "NoVoter"]
def isB (c x : Str) : Bool := c == x || (x == "VoteError" && CS.contains c)
structure Fa (K : PySem.W.Frag) (mg : Str → Option Value) : Prop where
  c_MOST_CHOICE : ∃ t, mg "MOST_CHOICE" = some (.int 5 t)
  c_MOST_VOTERS : ∃ t, mg "MOST_VOTERS" = some (.int 8 t)
  e_NoPasses : Iv.ExcC K mg "NoPasses"
  e_NoVoter : Iv.ExcC K mg "NoVoter"
  s_NONE : ∃ t, mg "NONE" = some (.str (Str.ofString "none") t)
  s_OWN : ∃ t, mg "OWN" = some (.str (Str.ofString "own") t)
  s_TO : ∃ t, mg "TO" = some (.str (Str.ofString "to") t)
  z_ValueError : mg "ValueError" = none
  z_abs : mg "abs" = none
  z_all : mg "all" = none
  z_any : mg "any" = none
  z_bool : mg "bool" = none
  z_enumerate : mg "enumerate" = none
  z_int : mg "int" = none
  z_isinstance : mg "isinstance" = none
  z_len : mg "len" = none
  z_list : mg "list" = none
  z_min : mg "min" = none
  z_range : mg "range" = none
  z_repr : mg "repr" = none
  z_str : mg "str" = none
  z_sum : mg "sum" = none
  z_tuple : mg "tuple" = none
  z_zip : mg "zip" = none
  err : ErrF K mg CS isB
  d_is_integer : DefG K mg "is_integer" ["thing"] st_is_integer
  d_is_within : DefG K mg "is_within" ["thing", "low", "high"] st_is_within
  d_is_pass : DefG K mg "is_pass" ["many", "thing"] st_is_pass
  d_is_sized : DefG K mg "is_sized" ["thing", "low", "high"] st_is_sized
  d_are_passes : DefG K mg "are_passes" ["thing"] st_are_passes
  d_check_passes : DefG K mg "check_passes" ["thing"] st_check_passes
  d_pass_rounds : DefG K mg "pass_rounds" ["passes"] st_pass_rounds
  d_raw_end : DefG K mg "raw_end" ["passes", "voter"] st_raw_end
  d_raw_weights : DefG K mg "raw_weights" ["passes"] st_raw_weights
  d_raw_outcome : DefG K mg "raw_outcome" ["passes"] st_raw_outcome
  d_outcome : DefG K mg "outcome" ["passes"] st_outcome
  d_weights : DefG K mg "weights" ["passes"] st_weights
  d_check_voter : DefG K mg "check_voter" ["many", "voter"] st_check_voter
  d_end_of : DefG K mg "end_of" ["passes", "voter"] st_end_of
  d__law_draw : DefG K mg "_law_draw" ["hand", "many"] st__law_draw
  d__law_any : DefG K mg "_law_any" ["hand", "some"] st__law_any
  d__law_no_passes : DefG K mg "_law_no_passes" ["hand", "passes"] st__law_no_passes
  d__law_is : DefG K mg "_law_is" ["came", "due"] st__law_is
  d__law_rounds : DefG K mg "_law_rounds" ["passes"] st__law_rounds
  d__law_end : DefG K mg "_law_end" ["passes", "voter"] st__law_end
  d__law_passes : DefG K mg "_law_passes" ["hand"] st__law_passes
  d__law_hand : DefG K mg "_law_hand" ["script"] st__law_hand
  d__law_word : DefG K mg "_law_word" ["call"] st__law_word
  d_law : DefG K mg "law" ["script"] st_law
def b_is_integer : MS := (mRet (mAndV (mUn (fIsi "int") (mName 0)) (mNotV (mUn (fIsi "bool") (mName 0)))))
def c_is_integer : M (Dt × Bool) := gFn 1 1 b_is_integer
def b_is_within : MS := (mRet (mAndV (mCallF 1 c_is_integer none (mA (mName 0) mA0)) (mChain dLeD dLeD (mName 1) (mName 0) (mName 2))))
def c_is_within : M (Dt × Bool) := gFn 3 3 b_is_within
def b_is_pass : MS := (mSeq (mIf (mOr (mNot (mTruth (mUn (fIsi "tuple") (mName 1)))) (mOr (mFlag (mBin dNin (mCall fLen (mA (mName 1) mA0)) (mTup (mA (mK (.int 1)) (mA (mK (.int 2)) mA0))))) (mNot (mTruth (mUn (fIsi "str") (mBin dIxA (mName 1) (mK (.int 0)))))))) (mRet (mK (.bool false))) mNx)
  (mSeq (mIf (mFlag (mBin dEq (mCall fLen (mA (mName 1) mA0)) (mK (.int 1)))) (mRet (mBin dEq (mBin dIxA (mName 1) (mK (.int 0))) (mK (.str (Str.ofString "none"))))) mNx)
  (mSeq (mIf (mFlag (mBin dEq (mBin dIxA (mName 1) (mK (.int 0))) (mK (.str (Str.ofString "own"))))) (mRet (mCallF 3 c_is_within none (mA (mBin dIxA (mName 1) (mK (.int 1))) (mA (mK (.int 0)) (mA (mK (.int 5)) mA0))))) mNx)
  (mRet (mAndV (mBin dEq (mBin dIxA (mName 1) (mK (.int 0))) (mK (.str (Str.ofString "to")))) (mCallF 3 c_is_within none (mA (mBin dIxA (mName 1) (mK (.int 1))) (mA (mK (.int 0)) (mA (mBin dSub (mName 0) (mK (.int 1))) mA0)))))))))
def c_is_pass : M (Dt × Bool) := gFn 2 2 b_is_pass
def b_is_sized : MS := (mRet (mAndV (mUn (fIsi "tuple") (mName 0)) (mChain dLeD dLeD (mName 1) (mCall fLen (mA (mName 0) mA0)) (mName 2))))
def c_is_sized : M (Dt × Bool) := gFn 3 3 b_is_sized
def E_are_passes_1 : M Rs := (mBin dEq (mName 1) (mTup (mA (mK (.str (Str.ofString "to"))) (mA (mName 2) mA0))))
def E_are_passes_2 : M Rs := (mCallF 2 c_is_pass none (mA (mCall fLen (mA (mName 0) mA0)) (mA (mName 1) mA0)))
def b_are_passes : MS := (mSeq (mIf (mOr (mNot (mTruth (mCallF 3 c_is_sized none (mA (mName 0) (mA (mK (.int 1)) (mA (mK (.int 8)) mA0)))))) (mNot (mTruth (mCall fAll (mA (mComp (mHold (mName 0)) [1] (bName 1) tAll E_are_passes_2) mA0))))) (mRet (mK (.bool false))) mNx)
  (mRet (mNotV (mCall fAny (mA (mComp (mItems enum1L (mA (mName 0) mA0)) [2, 1] (bTup 2 (bCons (bName 2) (bCons (bName 1) bNil))) tAll E_are_passes_1) mA0)))))
def c_are_passes : M (Dt × Bool) := gFn 1 3 b_are_passes
def xb_check_passes : XS := (xIf (mNot (mTruth (mCallF 1 c_are_passes none (mA (mName 0) mA0)))) (xRaise "NoPasses") xNo)
def x_check_passes : XS := gX 1 1 xb_check_passes
def b_check_passes : MS := (mIf (mNot (mTruth (mCallF 1 c_are_passes none (mA (mName 0) mA0)))) mFail mNx)
def c_check_passes : M (Dt × Bool) := gFn 1 1 b_check_passes
def L_pass_rounds_1 : MS := (mSeq (mDrop (mMethS 3 "list" fApp (mA (mName 4) mA0)))
  (mSet 4 (mBin dIxA (mBin dIxA (mName 0) (mName 4)) (mK (.int 1)))))
def T_pass_rounds_1 : M Bool := (mAnd (mFlag (mBin dEq (mBin dIxA (mBin dIxA (mName 0) (mName 4)) (mK (.int 0))) (mK (.str (Str.ofString "to"))))) (mFlag (mBin dNin (mName 4) (mName 3))))
def L_pass_rounds_2 : MS := (mSeq (mPar [3, 4] (mF (mLst mA0) (mF (mName 2) mF0)))
  (mSeq (mWhile T_pass_rounds_1 L_pass_rounds_1)
  (mIf (mAnd (mFlag (mBin dGtD (mCall fLen (mA (mName 3) mA0)) (mK (.int 0)))) (mAnd (mFlag (mBin dEq (mName 4) (mName 2))) (mFlag (mBin dEq (mName 2) (mCall fMin (mA (mName 3) mA0)))))) (mDrop (mMethS 1 "list" fApp (mA (mCall fTup (mA (mName 3) mA0)) mA0))) mNx)))
def xb_pass_rounds : XS := (xFirst (xE (mCallX 1 x_check_passes (mA (mName 0) mA0))))
def x_pass_rounds : XS := gX 1 5 xb_pass_rounds
def b_pass_rounds : MS := (mSeq (mDrop (mCallF 1 c_check_passes none (mA (mName 0) mA0)))
  (mSeq (mSet 1 (mLst mA0))
  (mSeq (mFor (mItems rng1L (mA (mCall fLen (mA (mName 0) mA0)) mA0)) (bName 2) L_pass_rounds_2)
  (mRet (mCall fTup (mA (mName 1) mA0))))))
def c_pass_rounds : M (Dt × Bool) := gFn 1 5 b_pass_rounds
def L_raw_end_1 : MS := (mSeq (mIf (mFlag (mBin dNe (mBin dIxA (mBin dIxA (mName 0) (mName 1)) (mK (.int 0))) (mK (.str (Str.ofString "to"))))) (mRet (mName 1)) mNx)
  (mSet 1 (mBin dIxA (mBin dIxA (mName 0) (mName 1)) (mK (.int 1)))))
def b_raw_end : MS := (mSeq (mFor (mItems rng1L (mA (mBin dAdd (mCall fLen (mA (mName 0) mA0)) (mK (.int 1))) mA0)) (bName 2) L_raw_end_1)
  (mRet (mK .none)))
def c_raw_end : M (Dt × Bool) := gFn 2 3 b_raw_end
def L_raw_weights_1 : MS := (mSeq (mSet 3 (mCallF 2 c_raw_end none (mA (mName 0) (mA (mName 2) mA0))))
  (mIf (mFlag (mBin dIsN (mName 3) (mK .none))) (mAugIt 1 aAdd (mName 3) (mK (.int 1))) mNx))
def b_raw_weights : MS := (mSeq (mSet 1 (mBin dMul (mLst (mA (mK (.int 0)) mA0)) (mCall fLen (mA (mName 0) mA0))))
  (mSeq (mFor (mItems rng1L (mA (mCall fLen (mA (mName 0) mA0)) mA0)) (bName 2) L_raw_weights_1)
  (mRet (mName 1))))
def c_raw_weights : M (Dt × Bool) := gFn 1 4 b_raw_weights
def L_raw_outcome_1 : MS := (mIf (mFlag (mBin dEq (mBin dIxA (mName 2) (mK (.int 0))) (mK (.str (Str.ofString "own"))))) (mAugIt 1 aAdd (mBin dIxA (mName 2) (mK (.int 1))) (mName 3)) mNx)
def b_raw_outcome : MS := (mSeq (mSet 1 (mBin dMul (mLst (mA (mK (.int 0)) mA0)) (mBin dAdd (mK (.int 5)) (mK (.int 1)))))
  (mSeq (mFor (mItems zip2L (mA (mName 0) (mA (mCallF 1 c_raw_weights none (mA (mName 0) mA0)) mA0))) (bTup 2 (bCons (bName 2) (bCons (bName 3) bNil))) L_raw_outcome_1)
  (mRet (mName 1))))
def c_raw_outcome : M (Dt × Bool) := gFn 1 4 b_raw_outcome
def xb_outcome : XS := (xFirst (xE (mCallX 1 x_check_passes (mA (mName 0) mA0))))
def x_outcome : XS := gX 1 1 xb_outcome
def b_outcome : MS := (mSeq (mDrop (mCallF 1 c_check_passes none (mA (mName 0) mA0)))
  (mRet (mCall fTup (mA (mCallF 1 c_raw_outcome none (mA (mName 0) mA0)) mA0))))
def c_outcome : M (Dt × Bool) := gFn 1 1 b_outcome
def xb_weights : XS := (xFirst (xE (mCallX 1 x_check_passes (mA (mName 0) mA0))))
def x_weights : XS := gX 1 1 xb_weights
def b_weights : MS := (mSeq (mDrop (mCallF 1 c_check_passes none (mA (mName 0) mA0)))
  (mRet (mCall fTup (mA (mCallF 1 c_raw_weights none (mA (mName 0) mA0)) mA0))))
def c_weights : M (Dt × Bool) := gFn 1 1 b_weights
def xb_check_voter : XS := (xIf (mNot (mTruth (mCallF 3 c_is_within none (mA (mName 1) (mA (mK (.int 0)) (mA (mBin dSub (mName 0) (mK (.int 1))) mA0)))))) (xRaise "NoVoter") xNo)
def x_check_voter : XS := gX 2 2 xb_check_voter
def b_check_voter : MS := (mIf (mNot (mTruth (mCallF 3 c_is_within none (mA (mName 1) (mA (mK (.int 0)) (mA (mBin dSub (mName 0) (mK (.int 1))) mA0)))))) mFail mNx)
def c_check_voter : M (Dt × Bool) := gFn 2 2 b_check_voter
def xb_end_of : XS := (xSeq (mDrop (mCallF 1 c_check_passes none (mA (mName 0) mA0))) (xE (mCallX 1 x_check_passes (mA (mName 0) mA0)))
  (xFirst (xE (mCallX 2 x_check_voter (mA (mCall fLen (mA (mName 0) mA0)) (mA (mName 1) mA0))))))
def x_end_of : XS := gX 2 2 xb_end_of
def b_end_of : MS := (mSeq (mDrop (mCallF 1 c_check_passes none (mA (mName 0) mA0)))
  (mSeq (mDrop (mCallF 2 c_check_voter none (mA (mCall fLen (mA (mName 0) mA0)) (mA (mName 1) mA0))))
  (mRet (mCallF 2 c_raw_end none (mA (mName 0) (mA (mName 1) mA0))))))
def c_end_of : M (Dt × Bool) := gFn 2 2 b_end_of
def b__law_draw : MS := (mSeq (mIf (mAnd (mFlag (mBin dEq (mBin dIxA (mName 0) (mK (.int 2))) (mK (.int 0)))) (mFlag (mBin dLtD (mBin dIxA (mName 0) (mK (.int 1))) (mCall fLen (mA (mBin dIxA (mName 0) (mK (.int 0))) mA0))))) (mSeq (mSet 2 (mBin dIxA (mBin dIxA (mName 0) (mK (.int 0))) (mBin dIxA (mName 0) (mK (.int 1)))))
  (mSeq (mSetIt 0 (mK (.int 1)) (mBin dAdd (mBin dIxA (mName 0) (mK (.int 1))) (mK (.int 1))))
  (mSeq (mSetIt 0 (mK (.int 3)) (mBin dMod (mCall fInt (mA (mBin dAdd (mBin dAdd (mBin dMul (mBin dIxA (mName 0) (mK (.int 3))) (mK (.int 69621))) (mBin dMul (mName 2) (mK (.int 40692)))) (mK (.int 31))) mA0)) (mK (.int 2147483629))))
  (mIf (mFlag (mBin dGeD (mName 2) (mBin dPow (mK (.int 10)) (mK (.int 18))))) (mSetIt 0 (mK (.int 2)) (mName 2)) mNx)))) mNx)
  (mSeq (mIf (mFlag (mBin dGtD (mBin dIxA (mName 0) (mK (.int 2))) (mK (.int 0)))) (mSeq (mSet 3 (mBin dMod (mCall fInt (mA (mBin dIxA (mName 0) (mK (.int 2))) mA0)) (mName 1)))
  (mSeq (mSetIt 0 (mK (.int 2)) (mBin dDiv (mBin dIxA (mName 0) (mK (.int 2))) (mName 1)))
  (mRet (mName 3)))) mNx)
  (mSeq (mSetIt 0 (mK (.int 4)) (mBin dAdd (mBin dIxA (mName 0) (mK (.int 4))) (mK (.int 1))))
  (mSeq (mSet 4 (mBin dMod (mCall fInt (mA (mBin dMul (mCall fInt (mA (mBin dAdd (mBin dIxA (mName 0) (mK (.int 3))) (mBin dMul (mK (.int 7919)) (mBin dIxA (mName 0) (mK (.int 4))))) mA0)) (mK (.int 48271))) mA0)) (mK (.int 2147483647))))
  (mSeq (mSet 4 (mBin dMod (mCall fInt (mA (mBin dMul (mName 4) (mBin dAdd (mBin dDiv (mName 4) (mK (.int 1009))) (mK (.int 69621)))) mA0)) (mK (.int 2147483647))))
  (mSeq (mSet 4 (mBin dMod (mCall fInt (mA (mBin dMul (mName 4) (mBin dAdd (mBin dDiv (mName 4) (mK (.int 2003))) (mK (.int 40014)))) mA0)) (mK (.int 2147483563))))
  (mRet (mBin dMod (mCall fInt (mA (mBin dDiv (mName 4) (mK (.int 16))) mA0)) (mName 1)))))))))
def c__law_draw : M (Dt × Bool) := gFn 2 5 b__law_draw
def b__law_any : MS := (mRet (mBin dIxA (mName 1) (mCallF 2 c__law_draw (some 0) (mA (mName 0) (mA (mCall fLen (mA (mName 1) mA0)) mA0)))))
def c__law_any : M (Dt × Bool) := gFn 2 2 b__law_any
def b__law_no_passes : MS := (mSeq (mSet 2 (mLst (mA (mK .none) (mA (mTup mA0) (mA (mCall fLst (mA (mName 1) mA0)) (mA (mBin dMul (mName 1) (mK (.int 9))) (mA (mTup (mA (mTup (mA (mK (.str (Str.ofString "own"))) (mA (mK (.int 6)) mA0))) mA0)) (mA (mTup (mA (mTup (mA (mK (.str (Str.ofString "own"))) mA0)) mA0)) (mA (mTup (mA (mTup (mA (mK (.str (Str.ofString "to"))) (mA (mK (.int 0)) mA0))) mA0)) (mA (mTup (mA (mTup (mA (mK (.str (Str.ofString "none"))) (mA (mK (.int 0)) mA0))) mA0)) (mA (mTup (mA (mLst (mA (mK (.str (Str.ofString "own"))) (mA (mK (.int 1)) mA0))) mA0)) mA0)))))))))))
  (mSeq (mSet 2 (mBin dAdd (mName 2) (mLst (mA (mBin dAdd (mName 1) (mTup (mA (mK .none) mA0))) (mA (mTup (mA (mTup (mA (mK (.str (Str.ofString "own"))) (mA (mK (.bool true)) mA0))) mA0)) (mA (mTup (mA (mTup (mA (mK (.str (Str.ofString "to"))) (mA (mK (.int 5)) mA0))) (mA (mTup (mA (mK (.str (Str.ofString "own"))) (mA (mK (.int 0)) mA0))) mA0))) (mA (mTup (mA (mTup (mA (mK (.str (Str.ofString "to"))) (mA (mK (.str (Str.ofString "1"))) mA0))) (mA (mTup (mA (mK (.str (Str.ofString "own"))) (mA (mK (.int 0)) mA0))) mA0))) (mA (mK (.str (Str.ofString "own"))) (mA (mK (.int 5)) mA0)))))))))
  (mRet (mCallF 2 c__law_any (some 0) (mA (mName 0) (mA (mBin dAdd (mName 2) (mLst (mA (mTup (mA (mTup (mA (mK (.str (Str.ofString "own"))) (mA (mUn dNeg (mK (.int 1))) mA0))) mA0)) (mA (mTup (mA (mTup (mA (mK (.str (Str.ofString "by"))) (mA (mK (.int 1)) mA0))) mA0)) (mA (mTup (mA (mTup (mA (mK (.str (Str.ofString "own"))) (mA (mK .none) mA0))) mA0)) mA0))))) mA0))))))
def c__law_no_passes : M (Dt × Bool) := gFn 2 3 b__law_no_passes
def b__law_is : MS := (mRet (mBin dEq (mCall fRepr (mA (mName 0) mA0)) (mCall fRepr (mA (mName 1) mA0))))
def c__law_is : M (Dt × Bool) := gFn 2 2 b__law_is
def L__law_rounds_1 : MS := (mDrop (mMethS 3 "list" fApp (mA (mBin dIxA (mBin dIxA (mName 0) (mBin dIxA (mName 3) (mUn dNeg (mK (.int 1))))) (mK (.int 1))) mA0)))
def T__law_rounds_1 : M Bool := (mAnd (mFlag (mBin dEq (mBin dIxA (mBin dIxA (mName 0) (mBin dIxA (mName 3) (mUn dNeg (mK (.int 1))))) (mK (.int 0))) (mK (.str (Str.ofString "to"))))) (mFlag (mBin dNin (mBin dIxA (mBin dIxA (mName 0) (mBin dIxA (mName 3) (mUn dNeg (mK (.int 1))))) (mK (.int 1))) (mName 3))))
def L__law_rounds_2 : MS := (mSeq (mSet 3 (mLst (mA (mName 2) mA0)))
  (mSeq (mWhile T__law_rounds_1 L__law_rounds_1)
  (mIf (mAnd (mFlag (mBin dEq (mBin dIxA (mName 0) (mBin dIxA (mName 3) (mUn dNeg (mK (.int 1))))) (mTup (mA (mK (.str (Str.ofString "to"))) (mA (mName 2) mA0))))) (mFlag (mBin dEq (mCall fMin (mA (mName 3) mA0)) (mName 2)))) (mDrop (mMethS 1 "list" fApp (mA (mCall fTup (mA (mName 3) mA0)) mA0))) mNx)))
def b__law_rounds : MS := (mSeq (mSet 1 (mLst mA0))
  (mSeq (mFor (mItems rng1L (mA (mCall fLen (mA (mName 0) mA0)) mA0)) (bName 2) L__law_rounds_2)
  (mRet (mCall fTup (mA (mName 1) mA0)))))
def c__law_rounds : M (Dt × Bool) := gFn 1 4 b__law_rounds
def L__law_end_1 : MS := (mSeq (mIf (mFlag (mBin dNe (mBin dIxA (mBin dIxA (mName 0) (mName 2)) (mK (.int 0))) (mK (.str (Str.ofString "to"))))) (mRet (mName 2)) mNx)
  (mSet 2 (mBin dIxA (mBin dIxA (mName 0) (mName 2)) (mK (.int 1)))))
def b__law_end : MS := (mSeq (mSet 2 (mName 1))
  (mSeq (mFor (mItems rng1L (mA (mBin dAdd (mCall fLen (mA (mName 0) mA0)) (mK (.int 1))) mA0)) (bName 3) L__law_end_1)
  (mRet (mK .none))))
def c__law_end : M (Dt × Bool) := gFn 2 4 b__law_end
def L__law_passes_1 : MS := (mIf (mAnd (mFlag (mBin dGtD (mName 1) (mK (.int 1)))) (mFlag (mBin dGtD (mCallF 2 c__law_draw (some 0) (mA (mName 0) (mA (mName 3) mA0))) (mK (.int 0))))) (mDrop (mMethS 2 "list" fApp (mA (mTup (mA (mK (.str (Str.ofString "to"))) (mA (mBin dMod (mCall fInt (mA (mBin dAdd (mBin dAdd (mName 4) (mK (.int 1))) (mCallF 2 c__law_draw (some 0) (mA (mName 0) (mA (mBin dSub (mName 1) (mK (.int 1))) mA0)))) mA0)) (mName 1)) mA0))) mA0))) (mDrop (mMethS 2 "list" fApp (mA (mCallF 2 c__law_any (some 0) (mA (mName 0) (mA (mLst (mA (mTup (mA (mK (.str (Str.ofString "own"))) (mA (mCallF 2 c__law_draw (some 0) (mA (mName 0) (mA (mK (.int 6)) mA0))) mA0))) (mA (mTup (mA (mK (.str (Str.ofString "own"))) (mA (mCallF 2 c__law_draw (some 0) (mA (mName 0) (mA (mK (.int 2)) mA0))) mA0))) (mA (mTup (mA (mK (.str (Str.ofString "none"))) mA0)) mA0)))) mA0))) mA0))))
def b__law_passes : MS := (mSeq (mPar [1, 2] (mF (mBin dAdd (mK (.int 1)) (mCallF 2 c__law_draw (some 0) (mA (mName 0) (mA (mK (.int 8)) mA0)))) (mF (mLst mA0) mF0)))
  (mSeq (mSet 3 (mCallF 2 c__law_any (some 0) (mA (mName 0) (mA (mLst (mA (mK (.int 2)) (mA (mK (.int 3)) (mA (mK (.int 6)) mA0)))) mA0))))
  (mSeq (mFor (mItems rng1L (mA (mName 1) mA0)) (bName 4) L__law_passes_1)
  (mRet (mCall fTup (mA (mName 2) mA0))))))
def c__law_passes : M (Dt × Bool) := gFn 1 5 b__law_passes
def E__law_hand_1 : M Rs := (mCall fAbs (mA (mCall fInt (mA (mName 2) mA0)) mA0))
def b__law_hand : MS := (mSeq (mSet 1 (mComp (mHold (mCut (mName 0) mO0 (mO (mK (.int 63))))) [2] (bName 2) tAll E__law_hand_1))
  (mRet (mLst (mA (mName 1) (mA (mK (.int 0)) (mA (mK (.int 0)) (mA (mBin dAdd (mK (.int 47569)) (mBin dMul (mK (.int 7)) (mCall fLen (mA (mName 1) mA0)))) (mA (mK (.int 0)) mA0))))))))
def c__law_hand : M (Dt × Bool) := gFn 1 3 b__law_hand
def ms__law_word (a : Addr) (cc : Str) : MS := (mSeq (mSet 2 (mLst (mA (mIsE 1 a (isB cc "NoPasses")) (mA (mIsE 1 a (isB cc "NoVoter")) mA0))))
  (mSeq (mSet 3 (mLst (mA (mK (.str (Str.ofString "NoPasses"))) (mA (mK (.str (Str.ofString "NoVoter"))) mA0))))
  (mRet (mIfE (mAnd (mFlag (mBin dEq (mMeth "list" fCntL (mName 2) (mA (mK (.bool true)) mA0)) (mK (.int 1)))) (mTruth (mIsE 1 a true))) (mBin dIxA (mName 3) (mMeth "list" fFndL (mName 2) (mA (mK (.bool true)) mA0))) (mK (.str (Str.ofString "other")))))))
def w__law_word : Str → Option Dt := fun cc => if cc = ("VoteError" : Str) then some (.str (Str.ofString "other")) else if cc = ("NoPasses" : Str) then some (.str (Str.ofString "NoPasses")) else if cc = ("NoVoter" : Str) then some (.str (Str.ofString "NoVoter")) else none
def E_law_1 : M Rs := (mBin dIxA (mName 6) (mName 11))
def T_law_1 : M Bool := (mFlag (mBin dEq (mBin dIxA (mName 3) (mName 11)) (mTup (mA (mK (.str (Str.ofString "own"))) (mA (mName 12) mA0)))))
def E_law_2 : M Rs := (mCall fSum (mA (mComp (mItems rng1L (mA (mName 4) mA0)) [11] (bName 11) T_law_1 E_law_1) mA0))
def E_law_3 : M Rs := (mMeth "list" fCntL (mName 5) (mA (mName 11) mA0))
def E_law_4 : M Rs := (mCallF 2 c__law_is none (mA (mCallF 2 c_end_of none (mA (mName 3) (mA (mName 11) mA0))) (mA (mBin dIxA (mName 5) (mName 11)) mA0)))
def E_law_5 : M Rs := (mCallF 2 c__law_end none (mA (mName 3) (mA (mName 11) mA0)))
def L_law_1 : MS := (mSeq (mSet 3 (mCallF 1 c__law_passes (some 0) (mA (mName 1) mA0)))
  (mSeq (mSet 4 (mCall fLen (mA (mName 3) mA0)))
  (mSeq (mSet 5 (mComp (mItems rng1L (mA (mName 4) mA0)) [11] (bName 11) tAll E_law_5))
  (mSeq (mIf (mNot (mTruth (mCall fAll (mA (mComp (mItems rng1L (mA (mName 4) mA0)) [11] (bName 11) tAll E_law_4) mA0)))) (mRet (mK (.bool false))) mNx)
  (mSeq (mSet 6 (mComp (mItems rng1L (mA (mName 4) mA0)) [11] (bName 11) tAll E_law_3))
  (mSeq (mSet 7 (mComp (mItems rng1L (mA (mK (.int 6)) mA0)) [12] (bName 12) tAll E_law_2))
  (mSeq (mIf (mNot (mTruth (mCallF 2 c__law_is none (mA (mLst (mA (mCallF 1 c_weights none (mA (mName 3) mA0)) (mA (mCallF 1 c_outcome none (mA (mName 3) mA0)) mA0))) (mA (mLst (mA (mCall fTup (mA (mName 6) mA0)) (mA (mCall fTup (mA (mName 7) mA0)) mA0))) mA0))))) (mRet (mK (.bool false))) mNx)
  (mSeq (mIf (mOr (mNot (mTruth (mCallF 2 c__law_is none (mA (mCallF 1 c_pass_rounds none (mA (mName 3) mA0)) (mA (mCallF 1 c__law_rounds none (mA (mName 3) mA0)) mA0))))) (mFlag (mBin dNe (mCall fSum (mA (mName 6) mA0)) (mBin dSub (mName 4) (mMeth "list" fCntL (mName 5) (mA (mK .none) mA0)))))) (mRet (mK (.bool false))) mNx)
  (mSeq (mAsg (mTup (mA (mCallF 2 c__law_no_passes (some 0) (mA (mName 1) (mA (mName 3) mA0))) (mA (mCallF 2 c__law_any (some 0) (mA (mName 1) (mA (mLst (mA (mName 4) (mA (mUn dNeg (mK (.int 1))) (mA (mK .none) (mA (mK (.bool true)) (mA (mK (.str (Str.ofString "0"))) (mA (mTup (mA (mK (.int 0)) mA0)) mA0))))))) mA0))) mA0))) (bTup 2 (bCons (bName 8) (bCons (bName 9) bNil))))
  (mSeq (mSet 10 (mLst (mA (mSaid (mCallF 2 c_end_of none (mA (mName 8) (mA (mName 9) mA0))) (mCallX 2 x_end_of (mA (mName 8) (mA (mName 9) mA0))) w__law_word (.str (Str.ofString "let"))) mA0)))
  (mSeq (mDrop (mMethS 10 "list" fApp (mA (mSaid (mCallF 2 c_end_of none (mA (mName 3) (mA (mName 9) mA0))) (mCallX 2 x_end_of (mA (mName 3) (mA (mName 9) mA0))) w__law_word (.str (Str.ofString "let"))) mA0)))
  (mSeq (mDrop (mMethS 10 "list" fApp (mA (mSaid (mCallF 1 c_weights none (mA (mName 8) mA0)) (mCallX 1 x_weights (mA (mName 8) mA0)) w__law_word (.str (Str.ofString "let"))) mA0)))
  (mSeq (mDrop (mMethS 10 "list" fApp (mA (mSaid (mCallF 1 c_outcome none (mA (mName 8) mA0)) (mCallX 1 x_outcome (mA (mName 8) mA0)) w__law_word (.str (Str.ofString "let"))) mA0)))
  (mSeq (mDrop (mMethS 10 "list" fApp (mA (mSaid (mCallF 1 c_pass_rounds none (mA (mName 8) mA0)) (mCallX 1 x_pass_rounds (mA (mName 8) mA0)) w__law_word (.str (Str.ofString "let"))) mA0)))
  (mIf (mFlag (mBin dNe (mName 10) (mLst (mA (mK (.str (Str.ofString "NoPasses"))) (mA (mK (.str (Str.ofString "NoVoter"))) (mA (mK (.str (Str.ofString "NoPasses"))) (mA (mK (.str (Str.ofString "NoPasses"))) (mA (mK (.str (Str.ofString "NoPasses"))) mA0)))))))) (mRet (mK (.bool false))) mNx)))))))))))))))
def b_law : MS := (mSeq (mSet 1 (mCallF 1 c__law_hand none (mA (mName 0) mA0)))
  (mSeq (mFor (mItems rng1L (mA (mK (.int 8)) mA0)) (bName 2) L_law_1)
  (mRet (mK (.bool true)))))
def c_law : M (Dt × Bool) := gFn 1 13 b_law
section
variable {P : Program} {w : World} {K : PySem.W.Frag} {mg : Str → Option Value} {base : Heap}
theorem ok_is_integer (A : Fa K mg) : CalG P w K mg base 1 "is_integer" ["thing"] c_is_integer :=
  calG_of A.d_is_integer sc_is_integer fun f cdv A0 outer s H E R =>
    (sb_one (ss_ret (se_and (se_isi (by rfl) A.z_isinstance (by decide +kernel) (by rfl) A.z_int (by decide +kernel) (se_name (i := 0) rfl (by first | exact .inl rfl | exact .inr (.inl rfl) | exact .inr (.inr rfl)))) (se_one (se_not (se_isi (by rfl) A.z_isinstance (by decide +kernel) (by rfl) A.z_bool (by decide +kernel) (se_name (i := 0) rfl (by first | exact .inl rfl | exact .inr (.inl rfl) | exact .inr (.inr rfl)))))))))
theorem ok_is_within (A : Fa K mg) : CalG P w K mg base 2 "is_within" ["thing", "low", "high"] c_is_within :=
  calG_of A.d_is_within sc_is_within fun f cdv A0 outer s H E R =>
    (sb_one (ss_ret (se_and (se_callG (ok_is_integer A) R (by decide : 1 ≤ _) (by rfl) (sa_cons (se_name (i := 0) rfl (by first | exact .inl rfl | exact .inr (.inl rfl) | exact .inr (.inr rfl))) sa_nil) none) (se_one (se_chain (ov_leD R.hu) (ov_leD R.hu) (se_name (i := 1) rfl (by first | exact .inl rfl | exact .inr (.inl rfl) | exact .inr (.inr rfl))) (se_name (i := 0) rfl (by first | exact .inl rfl | exact .inr (.inl rfl) | exact .inr (.inr rfl))) (se_name (i := 2) rfl (by first | exact .inl rfl | exact .inr (.inl rfl) | exact .inr (.inr rfl))))))))
theorem ok_is_pass (A : Fa K mg) : CalG P w K mg base 3 "is_pass" ["many", "thing"] c_is_pass :=
  calG_of A.d_is_pass sc_is_pass fun f cdv A0 outer s H E R =>
    (sb_cons (ss_if (sw_or (st_not (st_truth (se_isi (by rfl) A.z_isinstance (by decide +kernel) (by rfl) A.z_tuple (by decide +kernel) (se_name (i := 1) rfl (by first | exact .inl rfl | exact .inr (.inl rfl) | exact .inr (.inr rfl)))))) (sw_or (st_cmp (ov_nin hC R.hu5) (se_callB cv_len (by rfl) A.z_len (by decide +kernel) (sa_cons (se_name (i := 1) rfl (by first | exact .inl rfl | exact .inr (.inl rfl) | exact .inr (.inr rfl))) sa_nil)) (se_tup (sa_cons se_int (sa_cons se_int sa_nil))) (by with_unfolding_all rfl)) (sw_or1 (st_not (st_truth (se_isi (by rfl) A.z_isinstance (by decide +kernel) (by rfl) A.z_str (by decide +kernel) (se_ix (ov_ixA hC R.hu) (se_name (i := 1) rfl (by first | exact .inl rfl | exact .inr (.inl rfl) | exact .inr (.inr rfl))) se_int))))))).st (sb_one (ss_ret se_bl)) sb_nil)
      (sb_cons (ss_if (st_cmp (ov_eq R.hu) (se_callB cv_len (by rfl) A.z_len (by decide +kernel) (sa_cons (se_name (i := 1) rfl (by first | exact .inl rfl | exact .inr (.inl rfl) | exact .inr (.inr rfl))) sa_nil)) se_int (nomark _)) (sb_one (ss_ret (se_cmp (ov_eq R.hu) (se_ix (ov_ixA hC R.hu) (se_name (i := 1) rfl (by first | exact .inl rfl | exact .inr (.inl rfl) | exact .inr (.inr rfl))) se_int) (se_gstr A.s_NONE (by rfl)) (nomark _)))) sb_nil)
      (sb_cons (ss_if (st_cmp (ov_eq R.hu) (se_ix (ov_ixA hC R.hu) (se_name (i := 1) rfl (by first | exact .inl rfl | exact .inr (.inl rfl) | exact .inr (.inr rfl))) se_int) (se_gstr A.s_OWN (by rfl)) (nomark _)) (sb_one (ss_ret (se_callG (ok_is_within A) R (by decide : 2 ≤ _) (by rfl) (sa_cons (se_ix (ov_ixA hC R.hu) (se_name (i := 1) rfl (by first | exact .inl rfl | exact .inr (.inl rfl) | exact .inr (.inr rfl))) se_int) (sa_cons se_int (sa_cons (se_gint A.c_MOST_CHOICE (by rfl)) sa_nil))) none))) sb_nil)
      (sb_one (ss_ret (se_and (se_cmp (ov_eq R.hu) (se_ix (ov_ixA hC R.hu) (se_name (i := 1) rfl (by first | exact .inl rfl | exact .inr (.inl rfl) | exact .inr (.inr rfl))) se_int) (se_gstr A.s_TO (by rfl)) (nomark _)) (se_one (se_callG (ok_is_within A) R (by decide : 2 ≤ _) (by rfl) (sa_cons (se_ix (ov_ixA hC R.hu) (se_name (i := 1) rfl (by first | exact .inl rfl | exact .inr (.inl rfl) | exact .inr (.inr rfl))) se_int) (sa_cons se_int (sa_cons (se_bin ov_sub (se_name (i := 0) rfl (by first | exact .inl rfl | exact .inr (.inl rfl) | exact .inr (.inr rfl))) se_int) sa_nil))) none))))))))
theorem ok_is_sized (A : Fa K mg) : CalG P w K mg base 1 "is_sized" ["thing", "low", "high"] c_is_sized :=
  calG_of A.d_is_sized sc_is_sized fun f cdv A0 outer s H E R =>
    (sb_one (ss_ret (se_and (se_isi (by rfl) A.z_isinstance (by decide +kernel) (by rfl) A.z_tuple (by decide +kernel) (se_name (i := 0) rfl (by first | exact .inl rfl | exact .inr (.inl rfl) | exact .inr (.inr rfl)))) (se_one (se_chain (ov_leD R.hu) (ov_leD R.hu) (se_name (i := 1) rfl (by first | exact .inl rfl | exact .inr (.inl rfl) | exact .inr (.inr rfl))) (se_callB cv_len (by rfl) A.z_len (by decide +kernel) (sa_cons (se_name (i := 0) rfl (by first | exact .inl rfl | exact .inr (.inl rfl) | exact .inr (.inr rfl))) sa_nil)) (se_name (i := 2) rfl (by first | exact .inl rfl | exact .inr (.inl rfl) | exact .inr (.inr rfl))))))))
theorem ok_are_passes (A : Fa K mg) : CalG P w K mg base 4 "are_passes" ["thing"] c_are_passes :=
  calG_of A.d_are_passes sc_are_passes fun f cdv A0 outer s H E R =>
    (sb_cons (ss_if (sw_or (st_not (st_truth (se_callG (ok_is_sized A) R (by decide : 1 ≤ _) (by rfl) (sa_cons (se_name (i := 0) rfl (by first | exact .inl rfl | exact .inr (.inl rfl) | exact .inr (.inr rfl))) (sa_cons se_int (sa_cons (se_gint A.c_MOST_VOTERS (by rfl)) sa_nil))) none))) (sw_or1 (st_not (st_truth (se_callB (cv_all rfl) (by rfl) A.z_all (by decide +kernel) (sa_cons (se_lc rfl sc_are_passes.nd (si_val (se_name (i := 0) rfl (by first | exact .inl rfl | exact .inr (.inl rfl) | exact .inr (.inr rfl)))) (blkOk_by (own := [("one", 1)]) (by rfl)) (by decide) (fun _ _ _ _ _ => (sg_name (i := 1) sc_are_passes.nd rfl (by first | exact .inl rfl | exact .inr rfl))) (fun _ _ _ _ _ => sts_nil) (fun _ _ _ _ _ => (se_callG (ok_is_pass A) R.blk (by decide : 3 ≤ _) (by rfl) (sa_cons (se_callB cv_len (by rfl) A.z_len (by decide +kernel) (sa_cons (se_name (i := 0) rfl (by first | exact .inl rfl | exact .inr (.inl rfl) | exact .inr (.inr rfl))) sa_nil)) (sa_cons (se_name (i := 1) rfl (by first | exact .inl rfl | exact .inr (.inl rfl) | exact .inr (.inr rfl))) sa_nil)) none))) sa_nil)))))).st (sb_one (ss_ret se_bl)) sb_nil)
      (sb_one (ss_ret (se_not (se_callB (cv_any rfl) (by rfl) A.z_any (by decide +kernel) (sa_cons (se_lc rfl sc_are_passes.nd (si_enum1 (by rfl) A.z_enumerate (sa_cons (se_name (i := 0) rfl (by first | exact .inl rfl | exact .inr (.inl rfl) | exact .inr (.inr rfl))) sa_nil)) (blkOk_by (own := [("voter", 2), ("one", 1)]) (by rfl)) (by decide) (fun _ _ _ _ _ => (sg_tup rfl (sgs_cons (sg_name (i := 2) sc_are_passes.nd rfl (by first | exact .inl rfl | exact .inr rfl)) (sgs_cons (sg_name (i := 1) sc_are_passes.nd rfl (by first | exact .inl rfl | exact .inr rfl)) sgs_nil)))) (fun _ _ _ _ _ => sts_nil) (fun _ _ _ _ _ => (se_cmp (ov_eq R.blk.hu) (se_name (i := 1) rfl (by first | exact .inl rfl | exact .inr (.inl rfl) | exact .inr (.inr rfl))) (se_tup (sa_cons (se_gstr A.s_TO (by rfl)) (sa_cons (se_name (i := 2) rfl (by first | exact .inl rfl | exact .inr (.inl rfl) | exact .inr (.inr rfl))) sa_nil))) (nomark _)))) sa_nil))))))
theorem okx_check_passes (A : Fa K mg) : CalX P w K mg base 5 "check_passes" ["thing"] x_check_passes :=
  calX_of A.d_check_passes sc_check_passes fun f cdv A0 outer s H E R =>
    (bx_one (sx_if (st_not (st_truth (se_callG (ok_are_passes A) (Rm.nox R) (by decide : 4 ≤ _) (by rfl) (sa_cons (se_name (i := 0) rfl (by first | exact .inl rfl | exact .inr (.inl rfl) | exact .inr (.inr rfl))) sa_nil) none))) (bx_one (sx_raise rfl A.e_NoPasses (by rfl))) bx_no))
theorem ok_check_passes (A : Fa K mg) : CalG P w K mg base 5 "check_passes" ["thing"] c_check_passes :=
  calG_of A.d_check_passes sc_check_passes fun f cdv A0 outer s H E R =>
    (sb_one (ss_if (st_not (st_truth (se_callG (ok_are_passes A) R (by decide : 4 ≤ _) (by rfl) (sa_cons (se_name (i := 0) rfl (by first | exact .inl rfl | exact .inr (.inl rfl) | exact .inr (.inr rfl))) sa_nil) none))) (sb_one ss_fail) sb_nil))
theorem okx_pass_rounds (A : Fa K mg) : CalX P w K mg base 6 "pass_rounds" ["passes"] x_pass_rounds :=
  calX_of A.d_pass_rounds sc_pass_rounds fun f cdv A0 outer s H E R =>
    (bx_first (sx_expr (ex_call (okx_check_passes A) R (by decide : 5 ≤ _) (by rfl) (sa_cons (se_name (i := 0) rfl (by first | exact .inl rfl | exact .inr (.inl rfl) | exact .inr (.inr rfl))) sa_nil))))
theorem ok_pass_rounds (A : Fa K mg) : CalG P w K mg base 6 "pass_rounds" ["passes"] c_pass_rounds :=
  calG_of A.d_pass_rounds sc_pass_rounds fun f cdv A0 outer s H E R =>
    (sb_cons (ss_expr (se_callG (ok_check_passes A) R (by decide : 5 ≤ _) (by rfl) (sa_cons (se_name (i := 0) rfl (by first | exact .inl rfl | exact .inr (.inl rfl) | exact .inr (.inr rfl))) sa_nil) none))
      (sb_cons (ss_set (i := 1) sc_pass_rounds.nd rfl (by first | exact .inl rfl | exact .inr rfl) (se_lst sa_nil))
      (sb_cons (ss_for PassesOwn.never rfl (si_range1 (by rfl) A.z_range (sa_cons (se_callB cv_len (by rfl) A.z_len (by decide +kernel) (sa_cons (se_name (i := 0) rfl (by first | exact .inl rfl | exact .inr (.inl rfl) | exact .inr (.inr rfl))) sa_nil)) sa_nil)) (sg_name (i := 2) sc_pass_rounds.nd rfl (by first | exact .inl rfl | exact .inr rfl)) (sb_cons (ss_par2 (i := 3) (j := 4) (by rfl) sc_pass_rounds.nd rfl rfl (sf_cons (se_lst sa_nil) (sf_cons (se_name (i := 2) rfl (by first | exact .inl rfl | exact .inr (.inl rfl) | exact .inr (.inr rfl))) sf_nil)) (by rfl) rfl rfl )
      (sb_cons (ss_while PassesOwn.never (sw_and (st_cmp (ov_eq R.hu) (se_ix (ov_ixA hC R.hu) (se_ix (ov_ixA hC R.hu) (se_name (i := 0) rfl (by first | exact .inl rfl | exact .inr (.inl rfl) | exact .inr (.inr rfl))) (se_name (i := 4) rfl (by first | exact .inl rfl | exact .inr (.inl rfl) | exact .inr (.inr rfl)))) se_int) (se_gstr A.s_TO (by rfl)) (nomark _)) (sw_and1 (st_cmp (ov_nin hC R.hu5) (se_name (i := 4) rfl (by first | exact .inl rfl | exact .inr (.inl rfl) | exact .inr (.inr rfl))) (se_name (i := 3) rfl (by first | exact .inl rfl | exact .inr (.inl rfl) | exact .inr (.inr rfl))) (by with_unfolding_all rfl)))).st (sb_cons (ss_expr (se_methS PySem.F.plainAttrs_list PySem.F.slot_list_append PySem.F.type_list_append mv_app (i := 3) rfl (by first | exact .inl rfl | exact .inr (.inl rfl) | exact .inr (.inr rfl)) (sa_cons (se_name (i := 4) rfl (by first | exact .inl rfl | exact .inr (.inl rfl) | exact .inr (.inr rfl))) sa_nil)))
      (sb_one (ss_set (i := 4) sc_pass_rounds.nd rfl (by first | exact .inl rfl | exact .inr rfl) (se_ix (ov_ixA hC R.hu) (se_ix (ov_ixA hC R.hu) (se_name (i := 0) rfl (by first | exact .inl rfl | exact .inr (.inl rfl) | exact .inr (.inr rfl))) (se_name (i := 4) rfl (by first | exact .inl rfl | exact .inr (.inl rfl) | exact .inr (.inr rfl)))) se_int)))))
      (sb_one (ss_if (sw_and (st_cmp (ov_gtD R.hu) (se_callB cv_len (by rfl) A.z_len (by decide +kernel) (sa_cons (se_name (i := 3) rfl (by first | exact .inl rfl | exact .inr (.inl rfl) | exact .inr (.inr rfl))) sa_nil)) se_int (nomark _)) (sw_and (st_cmp (ov_eq R.hu) (se_name (i := 4) rfl (by first | exact .inl rfl | exact .inr (.inl rfl) | exact .inr (.inr rfl))) (se_name (i := 2) rfl (by first | exact .inl rfl | exact .inr (.inl rfl) | exact .inr (.inr rfl))) (nomark _)) (sw_and1 (st_cmp (ov_eq R.hu) (se_name (i := 2) rfl (by first | exact .inl rfl | exact .inr (.inl rfl) | exact .inr (.inr rfl))) (se_callB (cv_min rfl R.hu70) (by rfl) A.z_min (by decide +kernel) (sa_cons (se_name (i := 3) rfl (by first | exact .inl rfl | exact .inr (.inl rfl) | exact .inr (.inr rfl))) sa_nil)) (nomark _))))).st (sb_one (ss_expr (se_methS PySem.F.plainAttrs_list PySem.F.slot_list_append PySem.F.type_list_append mv_app (i := 1) rfl (by first | exact .inl rfl | exact .inr (.inl rfl) | exact .inr (.inr rfl)) (sa_cons (se_callTy cv_tup (by rfl) A.z_tuple (by decide +kernel) (sa_cons (se_name (i := 3) rfl (by first | exact .inl rfl | exact .inr (.inl rfl) | exact .inr (.inr rfl))) sa_nil)) sa_nil)))) sb_nil)))))
      (sb_one (ss_ret (se_callTy cv_tup (by rfl) A.z_tuple (by decide +kernel) (sa_cons (se_name (i := 1) rfl (by first | exact .inl rfl | exact .inr (.inl rfl) | exact .inr (.inr rfl))) sa_nil)))))))
theorem ok_raw_end (A : Fa K mg) : CalG P w K mg base 1 "raw_end" ["passes", "voter"] c_raw_end :=
  calG_of A.d_raw_end sc_raw_end fun f cdv A0 outer s H E R =>
    (sb_cons (ss_for PassesOwn.never rfl (si_range1 (by rfl) A.z_range (sa_cons (se_bin ov_add (se_callB cv_len (by rfl) A.z_len (by decide +kernel) (sa_cons (se_name (i := 0) rfl (by first | exact .inl rfl | exact .inr (.inl rfl) | exact .inr (.inr rfl))) sa_nil)) se_int) sa_nil)) (sg_name (i := 2) sc_raw_end.nd rfl (by first | exact .inl rfl | exact .inr rfl)) (sb_cons (ss_if (st_cmp (ov_ne R.hu) (se_ix (ov_ixA hC R.hu) (se_ix (ov_ixA hC R.hu) (se_name (i := 0) rfl (by first | exact .inl rfl | exact .inr (.inl rfl) | exact .inr (.inr rfl))) (se_name (i := 1) rfl (by first | exact .inl rfl | exact .inr (.inl rfl) | exact .inr (.inr rfl)))) se_int) (se_gstr A.s_TO (by rfl)) (nomark _)) (sb_one (ss_ret (se_name (i := 1) rfl (by first | exact .inl rfl | exact .inr (.inl rfl) | exact .inr (.inr rfl))))) sb_nil)
      (sb_one (ss_set (i := 1) sc_raw_end.nd rfl (by first | exact .inl rfl | exact .inr rfl) (se_ix (ov_ixA hC R.hu) (se_ix (ov_ixA hC R.hu) (se_name (i := 0) rfl (by first | exact .inl rfl | exact .inr (.inl rfl) | exact .inr (.inr rfl))) (se_name (i := 1) rfl (by first | exact .inl rfl | exact .inr (.inl rfl) | exact .inr (.inr rfl)))) se_int)))))
      (sb_one (ss_ret se_non)))
theorem ok_raw_weights (A : Fa K mg) : CalG P w K mg base 2 "raw_weights" ["passes"] c_raw_weights :=
  calG_of A.d_raw_weights sc_raw_weights fun f cdv A0 outer s H E R =>
    (sb_cons (ss_set (i := 1) sc_raw_weights.nd rfl (by first | exact .inl rfl | exact .inr rfl) (se_bin ov_mul (se_lst (sa_cons se_int sa_nil)) (se_callB cv_len (by rfl) A.z_len (by decide +kernel) (sa_cons (se_name (i := 0) rfl (by first | exact .inl rfl | exact .inr (.inl rfl) | exact .inr (.inr rfl))) sa_nil))))
      (sb_cons (ss_for PassesOwn.never rfl (si_range1 (by rfl) A.z_range (sa_cons (se_callB cv_len (by rfl) A.z_len (by decide +kernel) (sa_cons (se_name (i := 0) rfl (by first | exact .inl rfl | exact .inr (.inl rfl) | exact .inr (.inr rfl))) sa_nil)) sa_nil)) (sg_name (i := 2) sc_raw_weights.nd rfl (by first | exact .inl rfl | exact .inr rfl)) (sb_cons (ss_set (i := 3) sc_raw_weights.nd rfl (by first | exact .inl rfl | exact .inr rfl) (se_callG (ok_raw_end A) R (by decide : 1 ≤ _) (by rfl) (sa_cons (se_name (i := 0) rfl (by first | exact .inl rfl | exact .inr (.inl rfl) | exact .inr (.inr rfl))) (sa_cons (se_name (i := 2) rfl (by first | exact .inl rfl | exact .inr (.inl rfl) | exact .inr (.inr rfl))) sa_nil)) none))
      (sb_one (ss_if (st_cmp ov_isn (se_name (i := 3) rfl (by first | exact .inl rfl | exact .inr (.inl rfl) | exact .inr (.inr rfl))) se_non (nomark _)) (sb_one (ss_augIt hC R.hu (i := 1) rfl (by first | exact .inl rfl | exact .inr (.inl rfl) | exact .inr (.inr rfl)) (se_name (i := 3) rfl (by first | exact .inl rfl | exact .inr (.inl rfl) | exact .inr (.inr rfl))) se_int iv_add)) sb_nil))))
      (sb_one (ss_ret (se_name (i := 1) rfl (by first | exact .inl rfl | exact .inr (.inl rfl) | exact .inr (.inr rfl)))))))
theorem ok_raw_outcome (A : Fa K mg) : CalG P w K mg base 3 "raw_outcome" ["passes"] c_raw_outcome :=
  calG_of A.d_raw_outcome sc_raw_outcome fun f cdv A0 outer s H E R =>
    (sb_cons (ss_set (i := 1) sc_raw_outcome.nd rfl (by first | exact .inl rfl | exact .inr rfl) (se_bin ov_mul (se_lst (sa_cons se_int sa_nil)) (se_bin ov_add (se_gint A.c_MOST_CHOICE (by rfl)) se_int)))
      (sb_cons (ss_for PassesOwn.never rfl (si_zip2 (by rfl) A.z_zip (sa_cons (se_name (i := 0) rfl (by first | exact .inl rfl | exact .inr (.inl rfl) | exact .inr (.inr rfl))) (sa_cons (se_callG (ok_raw_weights A) R (by decide : 2 ≤ _) (by rfl) (sa_cons (se_name (i := 0) rfl (by first | exact .inl rfl | exact .inr (.inl rfl) | exact .inr (.inr rfl))) sa_nil) none) sa_nil))) (sg_tup rfl (sgs_cons (sg_name (i := 2) sc_raw_outcome.nd rfl (by first | exact .inl rfl | exact .inr rfl)) (sgs_cons (sg_name (i := 3) sc_raw_outcome.nd rfl (by first | exact .inl rfl | exact .inr rfl)) sgs_nil))) (sb_one (ss_if (st_cmp (ov_eq R.hu) (se_ix (ov_ixA hC R.hu) (se_name (i := 2) rfl (by first | exact .inl rfl | exact .inr (.inl rfl) | exact .inr (.inr rfl))) se_int) (se_gstr A.s_OWN (by rfl)) (nomark _)) (sb_one (ss_augIt hC R.hu (i := 1) rfl (by first | exact .inl rfl | exact .inr (.inl rfl) | exact .inr (.inr rfl)) (se_ix (ov_ixA hC R.hu) (se_name (i := 2) rfl (by first | exact .inl rfl | exact .inr (.inl rfl) | exact .inr (.inr rfl))) se_int) (se_name (i := 3) rfl (by first | exact .inl rfl | exact .inr (.inl rfl) | exact .inr (.inr rfl))) iv_add)) sb_nil)))
      (sb_one (ss_ret (se_name (i := 1) rfl (by first | exact .inl rfl | exact .inr (.inl rfl) | exact .inr (.inr rfl)))))))
theorem okx_outcome (A : Fa K mg) : CalX P w K mg base 6 "outcome" ["passes"] x_outcome :=
  calX_of A.d_outcome sc_outcome fun f cdv A0 outer s H E R =>
    (bx_first (sx_expr (ex_call (okx_check_passes A) R (by decide : 5 ≤ _) (by rfl) (sa_cons (se_name (i := 0) rfl (by first | exact .inl rfl | exact .inr (.inl rfl) | exact .inr (.inr rfl))) sa_nil))))
theorem ok_outcome (A : Fa K mg) : CalG P w K mg base 6 "outcome" ["passes"] c_outcome :=
  calG_of A.d_outcome sc_outcome fun f cdv A0 outer s H E R =>
    (sb_cons (ss_expr (se_callG (ok_check_passes A) R (by decide : 5 ≤ _) (by rfl) (sa_cons (se_name (i := 0) rfl (by first | exact .inl rfl | exact .inr (.inl rfl) | exact .inr (.inr rfl))) sa_nil) none))
      (sb_one (ss_ret (se_callTy cv_tup (by rfl) A.z_tuple (by decide +kernel) (sa_cons (se_callG (ok_raw_outcome A) R (by decide : 3 ≤ _) (by rfl) (sa_cons (se_name (i := 0) rfl (by first | exact .inl rfl | exact .inr (.inl rfl) | exact .inr (.inr rfl))) sa_nil) none) sa_nil)))))
theorem okx_weights (A : Fa K mg) : CalX P w K mg base 6 "weights" ["passes"] x_weights :=
  calX_of A.d_weights sc_weights fun f cdv A0 outer s H E R =>
    (bx_first (sx_expr (ex_call (okx_check_passes A) R (by decide : 5 ≤ _) (by rfl) (sa_cons (se_name (i := 0) rfl (by first | exact .inl rfl | exact .inr (.inl rfl) | exact .inr (.inr rfl))) sa_nil))))
theorem ok_weights (A : Fa K mg) : CalG P w K mg base 6 "weights" ["passes"] c_weights :=
  calG_of A.d_weights sc_weights fun f cdv A0 outer s H E R =>
    (sb_cons (ss_expr (se_callG (ok_check_passes A) R (by decide : 5 ≤ _) (by rfl) (sa_cons (se_name (i := 0) rfl (by first | exact .inl rfl | exact .inr (.inl rfl) | exact .inr (.inr rfl))) sa_nil) none))
      (sb_one (ss_ret (se_callTy cv_tup (by rfl) A.z_tuple (by decide +kernel) (sa_cons (se_callG (ok_raw_weights A) R (by decide : 2 ≤ _) (by rfl) (sa_cons (se_name (i := 0) rfl (by first | exact .inl rfl | exact .inr (.inl rfl) | exact .inr (.inr rfl))) sa_nil) none) sa_nil)))))
theorem okx_check_voter (A : Fa K mg) : CalX P w K mg base 3 "check_voter" ["many", "voter"] x_check_voter :=
  calX_of A.d_check_voter sc_check_voter fun f cdv A0 outer s H E R =>
    (bx_one (sx_if (st_not (st_truth (se_callG (ok_is_within A) (Rm.nox R) (by decide : 2 ≤ _) (by rfl) (sa_cons (se_name (i := 1) rfl (by first | exact .inl rfl | exact .inr (.inl rfl) | exact .inr (.inr rfl))) (sa_cons se_int (sa_cons (se_bin ov_sub (se_name (i := 0) rfl (by first | exact .inl rfl | exact .inr (.inl rfl) | exact .inr (.inr rfl))) se_int) sa_nil))) none))) (bx_one (sx_raise rfl A.e_NoVoter (by rfl))) bx_no))
theorem ok_check_voter (A : Fa K mg) : CalG P w K mg base 3 "check_voter" ["many", "voter"] c_check_voter :=
  calG_of A.d_check_voter sc_check_voter fun f cdv A0 outer s H E R =>
    (sb_one (ss_if (st_not (st_truth (se_callG (ok_is_within A) R (by decide : 2 ≤ _) (by rfl) (sa_cons (se_name (i := 1) rfl (by first | exact .inl rfl | exact .inr (.inl rfl) | exact .inr (.inr rfl))) (sa_cons se_int (sa_cons (se_bin ov_sub (se_name (i := 0) rfl (by first | exact .inl rfl | exact .inr (.inl rfl) | exact .inr (.inr rfl))) se_int) sa_nil))) none))) (sb_one ss_fail) sb_nil))
theorem okx_end_of (A : Fa K mg) : CalX P w K mg base 6 "end_of" ["passes", "voter"] x_end_of :=
  calX_of A.d_end_of sc_end_of fun f cdv A0 outer s H E R =>
    (bx_cons (ss_expr (se_callG (ok_check_passes A) (Rm.nox R) (by decide : 5 ≤ _) (by rfl) (sa_cons (se_name (i := 0) rfl (by first | exact .inl rfl | exact .inr (.inl rfl) | exact .inr (.inr rfl))) sa_nil) none)) (sx_expr (ex_call (okx_check_passes A) R (by decide : 5 ≤ _) (by rfl) (sa_cons (se_name (i := 0) rfl (by first | exact .inl rfl | exact .inr (.inl rfl) | exact .inr (.inr rfl))) sa_nil)))
      (bx_first (sx_expr (ex_call (okx_check_voter A) R (by decide : 3 ≤ _) (by rfl) (sa_cons (se_callB cv_len (by rfl) A.z_len (by decide +kernel) (sa_cons (se_name (i := 0) rfl (by first | exact .inl rfl | exact .inr (.inl rfl) | exact .inr (.inr rfl))) sa_nil)) (sa_cons (se_name (i := 1) rfl (by first | exact .inl rfl | exact .inr (.inl rfl) | exact .inr (.inr rfl))) sa_nil))))))
theorem ok_end_of (A : Fa K mg) : CalG P w K mg base 6 "end_of" ["passes", "voter"] c_end_of :=
  calG_of A.d_end_of sc_end_of fun f cdv A0 outer s H E R =>
    (sb_cons (ss_expr (se_callG (ok_check_passes A) R (by decide : 5 ≤ _) (by rfl) (sa_cons (se_name (i := 0) rfl (by first | exact .inl rfl | exact .inr (.inl rfl) | exact .inr (.inr rfl))) sa_nil) none))
      (sb_cons (ss_expr (se_callG (ok_check_voter A) R (by decide : 3 ≤ _) (by rfl) (sa_cons (se_callB cv_len (by rfl) A.z_len (by decide +kernel) (sa_cons (se_name (i := 0) rfl (by first | exact .inl rfl | exact .inr (.inl rfl) | exact .inr (.inr rfl))) sa_nil)) (sa_cons (se_name (i := 1) rfl (by first | exact .inl rfl | exact .inr (.inl rfl) | exact .inr (.inr rfl))) sa_nil)) none))
      (sb_one (ss_ret (se_callG (ok_raw_end A) R (by decide : 1 ≤ _) (by rfl) (sa_cons (se_name (i := 0) rfl (by first | exact .inl rfl | exact .inr (.inl rfl) | exact .inr (.inr rfl))) (sa_cons (se_name (i := 1) rfl (by first | exact .inl rfl | exact .inr (.inl rfl) | exact .inr (.inr rfl))) sa_nil)) none)))))
theorem ok__law_draw (A : Fa K mg) : CalG P w K mg base 1 "_law_draw" ["hand", "many"] c__law_draw :=
  calG_of A.d__law_draw sc__law_draw fun f cdv A0 outer s H E R =>
    (sb_cons (ss_if (sw_and (st_cmp (ov_eq R.hu) (se_ix (ov_ixA hC R.hu) (se_name (i := 0) rfl (by first | exact .inl rfl | exact .inr (.inl rfl) | exact .inr (.inr rfl))) se_int) se_int (nomark _)) (sw_and1 (st_cmp (ov_ltD R.hu) (se_ix (ov_ixA hC R.hu) (se_name (i := 0) rfl (by first | exact .inl rfl | exact .inr (.inl rfl) | exact .inr (.inr rfl))) se_int) (se_callB cv_len (by rfl) A.z_len (by decide +kernel) (sa_cons (se_ix (ov_ixA hC R.hu) (se_name (i := 0) rfl (by first | exact .inl rfl | exact .inr (.inl rfl) | exact .inr (.inr rfl))) se_int) sa_nil)) (nomark _)))).st (sb_cons (ss_set (i := 2) sc__law_draw.nd rfl (by first | exact .inl rfl | exact .inr rfl) (se_ix (ov_ixA hC R.hu) (se_ix (ov_ixA hC R.hu) (se_name (i := 0) rfl (by first | exact .inl rfl | exact .inr (.inl rfl) | exact .inr (.inr rfl))) se_int) (se_ix (ov_ixA hC R.hu) (se_name (i := 0) rfl (by first | exact .inl rfl | exact .inr (.inl rfl) | exact .inr (.inr rfl))) se_int)))
      (sb_cons (ss_setIt hC R.hu (i := 0) rfl (by first | exact .inl rfl | exact .inr (.inl rfl) | exact .inr (.inr rfl)) se_int (se_bin ov_add (se_ix (ov_ixA hC R.hu) (se_name (i := 0) rfl (by first | exact .inl rfl | exact .inr (.inl rfl) | exact .inr (.inr rfl))) se_int) se_int))
      (sb_cons (ss_setIt hC R.hu (i := 0) rfl (by first | exact .inl rfl | exact .inr (.inl rfl) | exact .inr (.inr rfl)) se_int (se_bin ov_mod (se_callTy cv_int (by rfl) A.z_int (by decide +kernel) (sa_cons (se_bin ov_add (se_bin ov_add (se_bin ov_mul (se_ix (ov_ixA hC R.hu) (se_name (i := 0) rfl (by first | exact .inl rfl | exact .inr (.inl rfl) | exact .inr (.inr rfl))) se_int) se_int) (se_bin ov_mul (se_name (i := 2) rfl (by first | exact .inl rfl | exact .inr (.inl rfl) | exact .inr (.inr rfl))) se_int)) se_int) sa_nil)) se_int))
      (sb_one (ss_if (st_cmp (ov_geD R.hu) (se_name (i := 2) rfl (by first | exact .inl rfl | exact .inr (.inl rfl) | exact .inr (.inr rfl))) (se_bin ov_pow se_int se_int) (nomark _)) (sb_one (ss_setIt hC R.hu (i := 0) rfl (by first | exact .inl rfl | exact .inr (.inl rfl) | exact .inr (.inr rfl)) se_int (se_name (i := 2) rfl (by first | exact .inl rfl | exact .inr (.inl rfl) | exact .inr (.inr rfl))))) sb_nil))))) sb_nil)
      (sb_cons (ss_if (st_cmp (ov_gtD R.hu) (se_ix (ov_ixA hC R.hu) (se_name (i := 0) rfl (by first | exact .inl rfl | exact .inr (.inl rfl) | exact .inr (.inr rfl))) se_int) se_int (nomark _)) (sb_cons (ss_set (i := 3) sc__law_draw.nd rfl (by first | exact .inl rfl | exact .inr rfl) (se_bin ov_mod (se_callTy cv_int (by rfl) A.z_int (by decide +kernel) (sa_cons (se_ix (ov_ixA hC R.hu) (se_name (i := 0) rfl (by first | exact .inl rfl | exact .inr (.inl rfl) | exact .inr (.inr rfl))) se_int) sa_nil)) (se_name (i := 1) rfl (by first | exact .inl rfl | exact .inr (.inl rfl) | exact .inr (.inr rfl)))))
      (sb_cons (ss_setIt hC R.hu (i := 0) rfl (by first | exact .inl rfl | exact .inr (.inl rfl) | exact .inr (.inr rfl)) se_int (se_bin ov_div (se_ix (ov_ixA hC R.hu) (se_name (i := 0) rfl (by first | exact .inl rfl | exact .inr (.inl rfl) | exact .inr (.inr rfl))) se_int) (se_name (i := 1) rfl (by first | exact .inl rfl | exact .inr (.inl rfl) | exact .inr (.inr rfl)))))
      (sb_one (ss_ret (se_name (i := 3) rfl (by first | exact .inl rfl | exact .inr (.inl rfl) | exact .inr (.inr rfl))))))) sb_nil)
      (sb_cons (ss_setIt hC R.hu (i := 0) rfl (by first | exact .inl rfl | exact .inr (.inl rfl) | exact .inr (.inr rfl)) se_int (se_bin ov_add (se_ix (ov_ixA hC R.hu) (se_name (i := 0) rfl (by first | exact .inl rfl | exact .inr (.inl rfl) | exact .inr (.inr rfl))) se_int) se_int))
      (sb_cons (ss_set (i := 4) sc__law_draw.nd rfl (by first | exact .inl rfl | exact .inr rfl) (se_bin ov_mod (se_callTy cv_int (by rfl) A.z_int (by decide +kernel) (sa_cons (se_bin ov_mul (se_callTy cv_int (by rfl) A.z_int (by decide +kernel) (sa_cons (se_bin ov_add (se_ix (ov_ixA hC R.hu) (se_name (i := 0) rfl (by first | exact .inl rfl | exact .inr (.inl rfl) | exact .inr (.inr rfl))) se_int) (se_bin ov_mul se_int (se_ix (ov_ixA hC R.hu) (se_name (i := 0) rfl (by first | exact .inl rfl | exact .inr (.inl rfl) | exact .inr (.inr rfl))) se_int))) sa_nil)) se_int) sa_nil)) se_int))
      (sb_cons (ss_set (i := 4) sc__law_draw.nd rfl (by first | exact .inl rfl | exact .inr rfl) (se_bin ov_mod (se_callTy cv_int (by rfl) A.z_int (by decide +kernel) (sa_cons (se_bin ov_mul (se_name (i := 4) rfl (by first | exact .inl rfl | exact .inr (.inl rfl) | exact .inr (.inr rfl))) (se_bin ov_add (se_bin ov_div (se_name (i := 4) rfl (by first | exact .inl rfl | exact .inr (.inl rfl) | exact .inr (.inr rfl))) se_int) se_int)) sa_nil)) se_int))
      (sb_cons (ss_set (i := 4) sc__law_draw.nd rfl (by first | exact .inl rfl | exact .inr rfl) (se_bin ov_mod (se_callTy cv_int (by rfl) A.z_int (by decide +kernel) (sa_cons (se_bin ov_mul (se_name (i := 4) rfl (by first | exact .inl rfl | exact .inr (.inl rfl) | exact .inr (.inr rfl))) (se_bin ov_add (se_bin ov_div (se_name (i := 4) rfl (by first | exact .inl rfl | exact .inr (.inl rfl) | exact .inr (.inr rfl))) se_int) se_int)) sa_nil)) se_int))
      (sb_one (ss_ret (se_bin ov_mod (se_callTy cv_int (by rfl) A.z_int (by decide +kernel) (sa_cons (se_bin ov_div (se_name (i := 4) rfl (by first | exact .inl rfl | exact .inr (.inl rfl) | exact .inr (.inr rfl))) se_int) sa_nil)) (se_name (i := 1) rfl (by first | exact .inl rfl | exact .inr (.inl rfl) | exact .inr (.inr rfl))))))))))))
theorem ok__law_any (A : Fa K mg) : CalG P w K mg base 2 "_law_any" ["hand", "some"] c__law_any :=
  calG_of A.d__law_any sc__law_any fun f cdv A0 outer s H E R =>
    (sb_one (ss_ret (se_ix (ov_ixA hC R.hu) (se_name (i := 1) rfl (by first | exact .inl rfl | exact .inr (.inl rfl) | exact .inr (.inr rfl))) (se_callG (ok__law_draw A) R (by decide : 1 ≤ _) (by rfl) (sa_cons (se_name (i := 0) rfl (by first | exact .inl rfl | exact .inr (.inl rfl) | exact .inr (.inr rfl))) (sa_cons (se_callB cv_len (by rfl) A.z_len (by decide +kernel) (sa_cons (se_name (i := 1) rfl (by first | exact .inl rfl | exact .inr (.inl rfl) | exact .inr (.inr rfl))) sa_nil)) sa_nil)) (some 0)))))
theorem ok__law_no_passes (A : Fa K mg) : CalG P w K mg base 3 "_law_no_passes" ["hand", "passes"] c__law_no_passes :=
  calG_of A.d__law_no_passes sc__law_no_passes fun f cdv A0 outer s H E R =>
    (sb_cons (ss_set (i := 2) sc__law_no_passes.nd rfl (by first | exact .inl rfl | exact .inr rfl) (se_lst (sa_cons se_non (sa_cons (se_tup sa_nil) (sa_cons (se_callTy cv_lst (by rfl) A.z_list (by decide +kernel) (sa_cons (se_name (i := 1) rfl (by first | exact .inl rfl | exact .inr (.inl rfl) | exact .inr (.inr rfl))) sa_nil)) (sa_cons (se_bin ov_mul (se_name (i := 1) rfl (by first | exact .inl rfl | exact .inr (.inl rfl) | exact .inr (.inr rfl))) se_int) (sa_cons (se_tup (sa_cons (se_tup (sa_cons se_str (sa_cons se_int sa_nil))) sa_nil)) (sa_cons (se_tup (sa_cons (se_tup (sa_cons se_str sa_nil)) sa_nil)) (sa_cons (se_tup (sa_cons (se_tup (sa_cons se_str (sa_cons se_int sa_nil))) sa_nil)) (sa_cons (se_tup (sa_cons (se_tup (sa_cons se_str (sa_cons se_int sa_nil))) sa_nil)) (sa_cons (se_tup (sa_cons (se_lst (sa_cons se_str (sa_cons se_int sa_nil))) sa_nil)) sa_nil)))))))))))
      (sb_cons (ss_set (i := 2) sc__law_no_passes.nd rfl (by first | exact .inl rfl | exact .inr rfl) (se_bin ov_add (se_name (i := 2) rfl (by first | exact .inl rfl | exact .inr (.inl rfl) | exact .inr (.inr rfl))) (se_lst (sa_cons (se_bin ov_add (se_name (i := 1) rfl (by first | exact .inl rfl | exact .inr (.inl rfl) | exact .inr (.inr rfl))) (se_tup (sa_cons se_non sa_nil))) (sa_cons (se_tup (sa_cons (se_tup (sa_cons se_str (sa_cons se_bl sa_nil))) sa_nil)) (sa_cons (se_tup (sa_cons (se_tup (sa_cons se_str (sa_cons se_int sa_nil))) (sa_cons (se_tup (sa_cons se_str (sa_cons se_int sa_nil))) sa_nil))) (sa_cons (se_tup (sa_cons (se_tup (sa_cons se_str (sa_cons se_str sa_nil))) (sa_cons (se_tup (sa_cons se_str (sa_cons se_int sa_nil))) sa_nil))) (sa_cons se_str (sa_cons se_int sa_nil)))))))))
      (sb_one (ss_ret (se_callG (ok__law_any A) R (by decide : 2 ≤ _) (by rfl) (sa_cons (se_name (i := 0) rfl (by first | exact .inl rfl | exact .inr (.inl rfl) | exact .inr (.inr rfl))) (sa_cons (se_bin ov_add (se_name (i := 2) rfl (by first | exact .inl rfl | exact .inr (.inl rfl) | exact .inr (.inr rfl))) (se_lst (sa_cons (se_tup (sa_cons (se_tup (sa_cons se_str (sa_cons (se_un ov_neg se_int) sa_nil))) sa_nil)) (sa_cons (se_tup (sa_cons (se_tup (sa_cons se_str (sa_cons se_int sa_nil))) sa_nil)) (sa_cons (se_tup (sa_cons (se_tup (sa_cons se_str (sa_cons se_non sa_nil))) sa_nil)) sa_nil))))) sa_nil)) (some 0))))))
theorem ok__law_is (A : Fa K mg) : CalG P w K mg base 1 "_law_is" ["came", "due"] c__law_is :=
  calG_of A.d__law_is sc__law_is fun f cdv A0 outer s H E R =>
    (sb_one (ss_ret (se_cmp (ov_eq R.hu) (se_callB (cv_repr R.hG R.hu) (by rfl) A.z_repr (by decide +kernel) (sa_cons (se_name (i := 0) rfl (by first | exact .inl rfl | exact .inr (.inl rfl) | exact .inr (.inr rfl))) sa_nil)) (se_callB (cv_repr R.hG R.hu) (by rfl) A.z_repr (by decide +kernel) (sa_cons (se_name (i := 1) rfl (by first | exact .inl rfl | exact .inr (.inl rfl) | exact .inr (.inr rfl))) sa_nil)) (nomark _))))
theorem ok__law_rounds (A : Fa K mg) : CalG P w K mg base 1 "_law_rounds" ["passes"] c__law_rounds :=
  calG_of A.d__law_rounds sc__law_rounds fun f cdv A0 outer s H E R =>
    (sb_cons (ss_set (i := 1) sc__law_rounds.nd rfl (by first | exact .inl rfl | exact .inr rfl) (se_lst sa_nil))
      (sb_cons (ss_for PassesOwn.never rfl (si_range1 (by rfl) A.z_range (sa_cons (se_callB cv_len (by rfl) A.z_len (by decide +kernel) (sa_cons (se_name (i := 0) rfl (by first | exact .inl rfl | exact .inr (.inl rfl) | exact .inr (.inr rfl))) sa_nil)) sa_nil)) (sg_name (i := 2) sc__law_rounds.nd rfl (by first | exact .inl rfl | exact .inr rfl)) (sb_cons (ss_set (i := 3) sc__law_rounds.nd rfl (by first | exact .inl rfl | exact .inr rfl) (se_lst (sa_cons (se_name (i := 2) rfl (by first | exact .inl rfl | exact .inr (.inl rfl) | exact .inr (.inr rfl))) sa_nil)))
      (sb_cons (ss_while PassesOwn.never (sw_and (st_cmp (ov_eq R.hu) (se_ix (ov_ixA hC R.hu) (se_ix (ov_ixA hC R.hu) (se_name (i := 0) rfl (by first | exact .inl rfl | exact .inr (.inl rfl) | exact .inr (.inr rfl))) (se_ix (ov_ixA hC R.hu) (se_name (i := 3) rfl (by first | exact .inl rfl | exact .inr (.inl rfl) | exact .inr (.inr rfl))) (se_un ov_neg se_int))) se_int) se_str (nomark _)) (sw_and1 (st_cmp (ov_nin hC R.hu5) (se_ix (ov_ixA hC R.hu) (se_ix (ov_ixA hC R.hu) (se_name (i := 0) rfl (by first | exact .inl rfl | exact .inr (.inl rfl) | exact .inr (.inr rfl))) (se_ix (ov_ixA hC R.hu) (se_name (i := 3) rfl (by first | exact .inl rfl | exact .inr (.inl rfl) | exact .inr (.inr rfl))) (se_un ov_neg se_int))) se_int) (se_name (i := 3) rfl (by first | exact .inl rfl | exact .inr (.inl rfl) | exact .inr (.inr rfl))) (by with_unfolding_all rfl)))).st (sb_one (ss_expr (se_methS PySem.F.plainAttrs_list PySem.F.slot_list_append PySem.F.type_list_append mv_app (i := 3) rfl (by first | exact .inl rfl | exact .inr (.inl rfl) | exact .inr (.inr rfl)) (sa_cons (se_ix (ov_ixA hC R.hu) (se_ix (ov_ixA hC R.hu) (se_name (i := 0) rfl (by first | exact .inl rfl | exact .inr (.inl rfl) | exact .inr (.inr rfl))) (se_ix (ov_ixA hC R.hu) (se_name (i := 3) rfl (by first | exact .inl rfl | exact .inr (.inl rfl) | exact .inr (.inr rfl))) (se_un ov_neg se_int))) se_int) sa_nil)))))
      (sb_one (ss_if (sw_and (st_cmp (ov_eq R.hu) (se_ix (ov_ixA hC R.hu) (se_name (i := 0) rfl (by first | exact .inl rfl | exact .inr (.inl rfl) | exact .inr (.inr rfl))) (se_ix (ov_ixA hC R.hu) (se_name (i := 3) rfl (by first | exact .inl rfl | exact .inr (.inl rfl) | exact .inr (.inr rfl))) (se_un ov_neg se_int))) (se_tup (sa_cons se_str (sa_cons (se_name (i := 2) rfl (by first | exact .inl rfl | exact .inr (.inl rfl) | exact .inr (.inr rfl))) sa_nil))) (nomark _)) (sw_and1 (st_cmp (ov_eq R.hu) (se_callB (cv_min rfl R.hu70) (by rfl) A.z_min (by decide +kernel) (sa_cons (se_name (i := 3) rfl (by first | exact .inl rfl | exact .inr (.inl rfl) | exact .inr (.inr rfl))) sa_nil)) (se_name (i := 2) rfl (by first | exact .inl rfl | exact .inr (.inl rfl) | exact .inr (.inr rfl))) (nomark _)))).st (sb_one (ss_expr (se_methS PySem.F.plainAttrs_list PySem.F.slot_list_append PySem.F.type_list_append mv_app (i := 1) rfl (by first | exact .inl rfl | exact .inr (.inl rfl) | exact .inr (.inr rfl)) (sa_cons (se_callTy cv_tup (by rfl) A.z_tuple (by decide +kernel) (sa_cons (se_name (i := 3) rfl (by first | exact .inl rfl | exact .inr (.inl rfl) | exact .inr (.inr rfl))) sa_nil)) sa_nil)))) sb_nil)))))
      (sb_one (ss_ret (se_callTy cv_tup (by rfl) A.z_tuple (by decide +kernel) (sa_cons (se_name (i := 1) rfl (by first | exact .inl rfl | exact .inr (.inl rfl) | exact .inr (.inr rfl))) sa_nil))))))
theorem ok__law_end (A : Fa K mg) : CalG P w K mg base 1 "_law_end" ["passes", "voter"] c__law_end :=
  calG_of A.d__law_end sc__law_end fun f cdv A0 outer s H E R =>
    (sb_cons (ss_set (i := 2) sc__law_end.nd rfl (by first | exact .inl rfl | exact .inr rfl) (se_name (i := 1) rfl (by first | exact .inl rfl | exact .inr (.inl rfl) | exact .inr (.inr rfl))))
      (sb_cons (ss_for PassesOwn.never rfl (si_range1 (by rfl) A.z_range (sa_cons (se_bin ov_add (se_callB cv_len (by rfl) A.z_len (by decide +kernel) (sa_cons (se_name (i := 0) rfl (by first | exact .inl rfl | exact .inr (.inl rfl) | exact .inr (.inr rfl))) sa_nil)) se_int) sa_nil)) (sg_name (i := 3) sc__law_end.nd rfl (by first | exact .inl rfl | exact .inr rfl)) (sb_cons (ss_if (st_cmp (ov_ne R.hu) (se_ix (ov_ixA hC R.hu) (se_ix (ov_ixA hC R.hu) (se_name (i := 0) rfl (by first | exact .inl rfl | exact .inr (.inl rfl) | exact .inr (.inr rfl))) (se_name (i := 2) rfl (by first | exact .inl rfl | exact .inr (.inl rfl) | exact .inr (.inr rfl)))) se_int) se_str (nomark _)) (sb_one (ss_ret (se_name (i := 2) rfl (by first | exact .inl rfl | exact .inr (.inl rfl) | exact .inr (.inr rfl))))) sb_nil)
      (sb_one (ss_set (i := 2) sc__law_end.nd rfl (by first | exact .inl rfl | exact .inr rfl) (se_ix (ov_ixA hC R.hu) (se_ix (ov_ixA hC R.hu) (se_name (i := 0) rfl (by first | exact .inl rfl | exact .inr (.inl rfl) | exact .inr (.inr rfl))) (se_name (i := 2) rfl (by first | exact .inl rfl | exact .inr (.inl rfl) | exact .inr (.inr rfl)))) se_int)))))
      (sb_one (ss_ret se_non))))
theorem ok__law_passes (A : Fa K mg) : CalG P w K mg base 3 "_law_passes" ["hand"] c__law_passes :=
  calG_of A.d__law_passes sc__law_passes fun f cdv A0 outer s H E R =>
    (sb_cons (ss_par2 (i := 1) (j := 2) (by rfl) sc__law_passes.nd rfl rfl (sf_cons (se_bin ov_add se_int (se_callG (ok__law_draw A) R (by decide : 1 ≤ _) (by rfl) (sa_cons (se_name (i := 0) rfl (by first | exact .inl rfl | exact .inr (.inl rfl) | exact .inr (.inr rfl))) (sa_cons se_int sa_nil)) (some 0))) (sf_cons (se_lst sa_nil) sf_nil)) (by rfl) rfl rfl )
      (sb_cons (ss_set (i := 3) sc__law_passes.nd rfl (by first | exact .inl rfl | exact .inr rfl) (se_callG (ok__law_any A) R (by decide : 2 ≤ _) (by rfl) (sa_cons (se_name (i := 0) rfl (by first | exact .inl rfl | exact .inr (.inl rfl) | exact .inr (.inr rfl))) (sa_cons (se_lst (sa_cons se_int (sa_cons se_int (sa_cons se_int sa_nil)))) sa_nil)) (some 0)))
      (sb_cons (ss_for PassesOwn.never rfl (si_range1 (by rfl) A.z_range (sa_cons (se_name (i := 1) rfl (by first | exact .inl rfl | exact .inr (.inl rfl) | exact .inr (.inr rfl))) sa_nil)) (sg_name (i := 4) sc__law_passes.nd rfl (by first | exact .inl rfl | exact .inr rfl)) (sb_one (ss_if (sw_and (st_cmp (ov_gtD R.hu) (se_name (i := 1) rfl (by first | exact .inl rfl | exact .inr (.inl rfl) | exact .inr (.inr rfl))) se_int (nomark _)) (sw_and1 (st_cmp (ov_gtD R.hu) (se_callG (ok__law_draw A) R (by decide : 1 ≤ _) (by rfl) (sa_cons (se_name (i := 0) rfl (by first | exact .inl rfl | exact .inr (.inl rfl) | exact .inr (.inr rfl))) (sa_cons (se_name (i := 3) rfl (by first | exact .inl rfl | exact .inr (.inl rfl) | exact .inr (.inr rfl))) sa_nil)) (some 0)) se_int (nomark _)))).st (sb_one (ss_expr (se_methS PySem.F.plainAttrs_list PySem.F.slot_list_append PySem.F.type_list_append mv_app (i := 2) rfl (by first | exact .inl rfl | exact .inr (.inl rfl) | exact .inr (.inr rfl)) (sa_cons (se_tup (sa_cons se_str (sa_cons (se_bin ov_mod (se_callTy cv_int (by rfl) A.z_int (by decide +kernel) (sa_cons (se_bin ov_add (se_bin ov_add (se_name (i := 4) rfl (by first | exact .inl rfl | exact .inr (.inl rfl) | exact .inr (.inr rfl))) se_int) (se_callG (ok__law_draw A) R (by decide : 1 ≤ _) (by rfl) (sa_cons (se_name (i := 0) rfl (by first | exact .inl rfl | exact .inr (.inl rfl) | exact .inr (.inr rfl))) (sa_cons (se_bin ov_sub (se_name (i := 1) rfl (by first | exact .inl rfl | exact .inr (.inl rfl) | exact .inr (.inr rfl))) se_int) sa_nil)) (some 0))) sa_nil)) (se_name (i := 1) rfl (by first | exact .inl rfl | exact .inr (.inl rfl) | exact .inr (.inr rfl)))) sa_nil))) sa_nil)))) (sb_one (ss_expr (se_methS PySem.F.plainAttrs_list PySem.F.slot_list_append PySem.F.type_list_append mv_app (i := 2) rfl (by first | exact .inl rfl | exact .inr (.inl rfl) | exact .inr (.inr rfl)) (sa_cons (se_callG (ok__law_any A) R (by decide : 2 ≤ _) (by rfl) (sa_cons (se_name (i := 0) rfl (by first | exact .inl rfl | exact .inr (.inl rfl) | exact .inr (.inr rfl))) (sa_cons (se_lst (sa_cons (se_tup (sa_cons se_str (sa_cons (se_callG (ok__law_draw A) R (by decide : 1 ≤ _) (by rfl) (sa_cons (se_name (i := 0) rfl (by first | exact .inl rfl | exact .inr (.inl rfl) | exact .inr (.inr rfl))) (sa_cons se_int sa_nil)) (some 0)) sa_nil))) (sa_cons (se_tup (sa_cons se_str (sa_cons (se_callG (ok__law_draw A) R (by decide : 1 ≤ _) (by rfl) (sa_cons (se_name (i := 0) rfl (by first | exact .inl rfl | exact .inr (.inl rfl) | exact .inr (.inr rfl))) (sa_cons se_int sa_nil)) (some 0)) sa_nil))) (sa_cons (se_tup (sa_cons se_str sa_nil)) sa_nil)))) sa_nil)) (some 0)) sa_nil)))))))
      (sb_one (ss_ret (se_callTy cv_tup (by rfl) A.z_tuple (by decide +kernel) (sa_cons (se_name (i := 2) rfl (by first | exact .inl rfl | exact .inr (.inl rfl) | exact .inr (.inr rfl))) sa_nil)))))))
theorem ok__law_hand (A : Fa K mg) : CalG P w K mg base 1 "_law_hand" ["script"] c__law_hand :=
  calG_of A.d__law_hand sc__law_hand fun f cdv A0 outer s H E R =>
    (sb_cons (ss_setLc (i := 1) rfl sc__law_hand.nd rfl rfl (sw_true rfl rfl rfl (by decide +kernel)) (si_val (se_slice (se_name (i := 0) rfl (by first | exact .inl rfl | exact .inr (.inl rfl) | exact .inr (.inr rfl))) so_none (so_some se_int))) (blkOk_by (own := [("cell", 2)]) (by rfl)) (by decide) (fun _ _ _ _ _ => (sg_name (i := 2) sc__law_hand.nd rfl (by first | exact .inl rfl | exact .inr rfl))) (fun _ _ _ _ _ => sts_nil) (fun _ _ _ _ _ => (se_callB cv_abs (by rfl) A.z_abs (by decide +kernel) (sa_cons (se_callTy cv_int (by rfl) A.z_int (by decide +kernel) (sa_cons (se_name (i := 2) rfl (by first | exact .inl rfl | exact .inr (.inl rfl) | exact .inr (.inr rfl))) sa_nil)) sa_nil))))
      (sb_one (ss_ret (se_lst (sa_cons (se_name (i := 1) rfl (by first | exact .inl rfl | exact .inr (.inl rfl) | exact .inr (.inr rfl))) (sa_cons se_int (sa_cons se_int (sa_cons (se_bin ov_add se_int (se_bin ov_mul se_int (se_callB cv_len (by rfl) A.z_len (by decide +kernel) (sa_cons (se_name (i := 1) rfl (by first | exact .inl rfl | exact .inr (.inl rfl) | exact .inr (.inr rfl))) sa_nil)))) (sa_cons se_int sa_nil)))))))))
theorem su__law_word (A : Fa K mg) {kk : Nat} : ∀ (g : Addr) (cdv : Value) (A0 : Around) (outer : List Env) (s : Shared) (H : Hp) (E : XK), Rm (cxOf CX0 P w K mg base ["call", "error", "flags", "words"] "_law_word" (defScope st__law_word) g cdv A0 outer s H E).nox kk → ∀ cc ∈ CS, ∀ (D a : Addr) (oe : Obj) (pn : List (Addr × Obj)), mg cc = some (.ref D) → Zc (.ref D) none oe → (∃ vs, oe.data = .fields vs) →
      SB ((cxOf CX0 P w K mg base ["call", "error", "flags", "words"] "_law_word" (defScope st__law_word) g cdv A0 outer s H E).nox.suite a ((a, oe) :: pn)) (match defBody st__law_word with | .Try _ (.ExceptHandler _ _ b _ :: _) _ _ _ :: _ => b | _ => []) (ms__law_word a cc) := fun g cdv A0 outer s H E R cc hcc D a oe pn hD hz hf =>
    (sb_cons (ss_set (i := 2) sc__law_word.nd rfl (by first | exact .inl rfl | exact .inr rfl) (se_lst (sa_cons (se_isE A.err hcc (by decide : ("NoPasses" : Str) ∈ CS) hD hz hf (i := 1) rfl (by first | exact .inl rfl | exact .inr (.inl rfl) | exact .inr (.inr rfl)) (by rfl) A.z_isinstance (by rfl)) (sa_cons (se_isE A.err hcc (by decide : ("NoVoter" : Str) ∈ CS) hD hz hf (i := 1) rfl (by first | exact .inl rfl | exact .inr (.inl rfl) | exact .inr (.inr rfl)) (by rfl) A.z_isinstance (by rfl)) sa_nil))))
      (sb_cons (ss_set (i := 3) sc__law_word.nd rfl (by first | exact .inl rfl | exact .inr rfl) (se_lst (sa_cons se_str (sa_cons se_str sa_nil))))
      (sb_one (ss_ret (se_ifE (sw_and (st_cmp (ov_eq (Rm.suite R).hu) (se_meth PySem.F.plainAttrs_list PySem.F.slot_list_count PySem.F.type_list_count (mv_cntL (Rm.suite R).hu5) (se_name (i := 2) rfl (by first | exact .inl rfl | exact .inr (.inl rfl) | exact .inr (.inr rfl))) (sa_cons se_bl sa_nil)) se_int (nomark _)) (sw_and1 (st_truth (se_isV A.err hcc hD hz hf (i := 1) rfl (by first | exact .inl rfl | exact .inr (.inl rfl) | exact .inr (.inr rfl)) (by rfl) A.z_isinstance (by rfl) A.z_ValueError)))).st (se_ix (ov_ixA hC (Rm.suite R).hu) (se_name (i := 3) rfl (by first | exact .inl rfl | exact .inr (.inl rfl) | exact .inr (.inr rfl))) (se_meth PySem.F.plainAttrs_list PySem.F.slot_list_index PySem.F.type_list_index (mv_fndL (Rm.suite R).hu5) (se_name (i := 2) rfl (by first | exact .inl rfl | exact .inr (.inl rfl) | exact .inr (.inr rfl))) (sa_cons se_bl sa_nil))) se_str)))))
theorem hw__law_word : ∀ cc x, w__law_word cc = some x → cc ∈ CS ∧ isB cc "VoteError" = true ∧ pureD x = true ∧ ∀ a, ∃ τ', ms__law_word a cc (tauE 4 1 a) = some (.rt x false, τ') := by
  intro cc x hx
  unfold w__law_word at hx
  split at hx
  · rename_i hc
    subst hc
    cases hx
    refine ⟨by decide, by decide, by simp, fun a => ?_⟩
    unfold ms__law_word tauE
    simp [show isB "VoteError" "VoteError" = true from by decide, show isB "VoteError" "NoPasses" = false from by decide, show isB "VoteError" "NoVoter" = false from by decide]
  split at hx
  · rename_i hc
    subst hc
    cases hx
    refine ⟨by decide, by decide, by simp, fun a => ?_⟩
    unfold ms__law_word tauE
    simp [show isB "NoPasses" "VoteError" = true from by decide, show isB "NoPasses" "NoPasses" = true from by decide, show isB "NoPasses" "NoVoter" = false from by decide]
  split at hx
  · rename_i hc
    subst hc
    cases hx
    refine ⟨by decide, by decide, by simp, fun a => ?_⟩
    unfold ms__law_word tauE
    simp [show isB "NoVoter" "VoteError" = true from by decide, show isB "NoVoter" "NoPasses" = false from by decide, show isB "NoVoter" "NoVoter" = true from by decide]
  cases hx
theorem bd_law (A : Fa K mg) {c Pt fa : Addr} (TB : LamX.TabB base mg c Pt) : ∀ (A0 : Around) (outer : List Env) (s : Shared) (H : Hp) (E : XK), (∃ qs, H Pt = some (.tbl qs)) → Rm (cxOf CX0 P w K mg base ["script", "hand", "turn", "passes", "n", "ends", "counts", "votes", "none", "bad", "words", "voter", "c"] "law" (defScope st_law) fa (.ref c) A0 outer s H E).nox 8 →
    SB (cxOf CX0 P w K mg base ["script", "hand", "turn", "passes", "n", "ends", "counts", "votes", "none", "bad", "words", "voter", "c"] "law" (defScope st_law) fa (.ref c) A0 outer s H E).nox (defBody st_law) b_law := fun A0 outer s H E hq0 R =>
    (sb_cons (ss_set (i := 1) sc_law.nd rfl (by first | exact .inl rfl | exact .inr rfl) (se_callG (ok__law_hand A) R (by decide : 1 ≤ _) (by rfl) (sa_cons (se_name (i := 0) rfl (by first | exact .inl rfl | exact .inr (.inl rfl) | exact .inr (.inr rfl))) sa_nil) none))
      (sb_cons (ss_for PassesOwn.never rfl (si_range1 (by rfl) A.z_range (sa_cons se_int sa_nil)) (sg_name (i := 2) sc_law.nd rfl (by first | exact .inl rfl | exact .inr rfl)) (sb_cons (ss_set (i := 3) sc_law.nd rfl (by first | exact .inl rfl | exact .inr rfl) (se_callG (ok__law_passes A) R (by decide : 3 ≤ _) (by rfl) (sa_cons (se_name (i := 1) rfl (by first | exact .inl rfl | exact .inr (.inl rfl) | exact .inr (.inr rfl))) sa_nil) (some 0)))
      (sb_cons (ss_set (i := 4) sc_law.nd rfl (by first | exact .inl rfl | exact .inr rfl) (se_callB cv_len (by rfl) A.z_len (by decide +kernel) (sa_cons (se_name (i := 3) rfl (by first | exact .inl rfl | exact .inr (.inl rfl) | exact .inr (.inr rfl))) sa_nil)))
      (sb_cons (ss_set (i := 5) sc_law.nd rfl (by first | exact .inl rfl | exact .inr rfl) (se_lc rfl sc_law.nd (si_range1 (by rfl) A.z_range (sa_cons (se_name (i := 4) rfl (by first | exact .inl rfl | exact .inr (.inl rfl) | exact .inr (.inr rfl))) sa_nil)) (blkOk_by (own := [("voter", 11)]) (by rfl)) (by decide) (fun _ _ _ _ _ => (sg_name (i := 11) sc_law.nd rfl (by first | exact .inl rfl | exact .inr rfl))) (fun _ _ _ _ _ => sts_nil) (fun _ _ _ _ _ => (se_callG (ok__law_end A) R.blk (by decide : 1 ≤ _) (by rfl) (sa_cons (se_name (i := 3) rfl (by first | exact .inl rfl | exact .inr (.inl rfl) | exact .inr (.inr rfl))) (sa_cons (se_name (i := 11) rfl (by first | exact .inl rfl | exact .inr (.inl rfl) | exact .inr (.inr rfl))) sa_nil)) none))))
      (sb_cons (ss_if (st_not (st_truth (se_callB (cv_all rfl) (by rfl) A.z_all (by decide +kernel) (sa_cons (se_lc rfl sc_law.nd (si_range1 (by rfl) A.z_range (sa_cons (se_name (i := 4) rfl (by first | exact .inl rfl | exact .inr (.inl rfl) | exact .inr (.inr rfl))) sa_nil)) (blkOk_by (own := [("voter", 11)]) (by rfl)) (by decide) (fun _ _ _ _ _ => (sg_name (i := 11) sc_law.nd rfl (by first | exact .inl rfl | exact .inr rfl))) (fun _ _ _ _ _ => sts_nil) (fun _ _ _ _ _ => (se_callG (ok__law_is A) R.blk (by decide : 1 ≤ _) (by rfl) (sa_cons (se_callG (ok_end_of A) R.blk (by decide : 6 ≤ _) (by rfl) (sa_cons (se_name (i := 3) rfl (by first | exact .inl rfl | exact .inr (.inl rfl) | exact .inr (.inr rfl))) (sa_cons (se_name (i := 11) rfl (by first | exact .inl rfl | exact .inr (.inl rfl) | exact .inr (.inr rfl))) sa_nil)) none) (sa_cons (se_ix (ov_ixA hC R.blk.hu) (se_name (i := 5) rfl (by first | exact .inl rfl | exact .inr (.inl rfl) | exact .inr (.inr rfl))) (se_name (i := 11) rfl (by first | exact .inl rfl | exact .inr (.inl rfl) | exact .inr (.inr rfl)))) sa_nil)) none))) sa_nil)))) (sb_one (ss_ret se_bl)) sb_nil)
      (sb_cons (ss_set (i := 6) sc_law.nd rfl (by first | exact .inl rfl | exact .inr rfl) (se_lc rfl sc_law.nd (si_range1 (by rfl) A.z_range (sa_cons (se_name (i := 4) rfl (by first | exact .inl rfl | exact .inr (.inl rfl) | exact .inr (.inr rfl))) sa_nil)) (blkOk_by (own := [("voter", 11)]) (by rfl)) (by decide) (fun _ _ _ _ _ => (sg_name (i := 11) sc_law.nd rfl (by first | exact .inl rfl | exact .inr rfl))) (fun _ _ _ _ _ => sts_nil) (fun _ _ _ _ _ => (se_meth PySem.F.plainAttrs_list PySem.F.slot_list_count PySem.F.type_list_count (mv_cntL R.blk.hu5) (se_name (i := 5) rfl (by first | exact .inl rfl | exact .inr (.inl rfl) | exact .inr (.inr rfl))) (sa_cons (se_name (i := 11) rfl (by first | exact .inl rfl | exact .inr (.inl rfl) | exact .inr (.inr rfl))) sa_nil)))))
      (sb_cons (ss_setLc (i := 7) rfl sc_law.nd rfl rfl (sw_true rfl rfl rfl (by decide +kernel)) (si_range1 (by rfl) A.z_range (sa_cons se_int sa_nil)) (blkOk_by (own := [("c", 12)]) (by rfl)) (by decide) (fun _ _ _ _ _ => (sg_name (i := 12) sc_law.nd rfl (by first | exact .inl rfl | exact .inr rfl))) (fun _ _ _ _ _ => sts_nil) (fun _ _ _ _ _ => (se_callB (cv_sum rfl) (by rfl) A.z_sum (by decide +kernel) (sa_cons (se_lc rfl sc_law.nd (si_range1 (by rfl) A.z_range (sa_cons (se_name (i := 4) rfl (by first | exact .inl rfl | exact .inr (.inl rfl) | exact .inr (.inr rfl))) sa_nil)) (blkOk_by (own := [("voter", 11)]) (by rfl)) (by decide) (fun _ _ _ _ _ => (sg_name (i := 11) sc_law.nd rfl (by first | exact .inl rfl | exact .inr rfl))) (fun _ _ _ _ _ => (sts_one (st_cmp (ov_eq R.blk.blk.hu) (se_ix (ov_ixA hC R.blk.blk.hu) (se_name (i := 3) rfl (by first | exact .inl rfl | exact .inr (.inl rfl) | exact .inr (.inr rfl))) (se_name (i := 11) rfl (by first | exact .inl rfl | exact .inr (.inl rfl) | exact .inr (.inr rfl)))) (se_tup (sa_cons se_str (sa_cons (se_name (i := 12) rfl (by first | exact .inl rfl | exact .inr (.inl rfl) | exact .inr (.inr rfl))) sa_nil))) (nomark _)))) (fun _ _ _ _ _ => (se_ix (ov_ixA hC R.blk.blk.hu) (se_name (i := 6) rfl (by first | exact .inl rfl | exact .inr (.inl rfl) | exact .inr (.inr rfl))) (se_name (i := 11) rfl (by first | exact .inl rfl | exact .inr (.inl rfl) | exact .inr (.inr rfl)))))) sa_nil))))
      (sb_cons (ss_if (st_not (st_truth (se_callG (ok__law_is A) R (by decide : 1 ≤ _) (by rfl) (sa_cons (se_lst (sa_cons (se_callG (ok_weights A) R (by decide : 6 ≤ _) (by rfl) (sa_cons (se_name (i := 3) rfl (by first | exact .inl rfl | exact .inr (.inl rfl) | exact .inr (.inr rfl))) sa_nil) none) (sa_cons (se_callG (ok_outcome A) R (by decide : 6 ≤ _) (by rfl) (sa_cons (se_name (i := 3) rfl (by first | exact .inl rfl | exact .inr (.inl rfl) | exact .inr (.inr rfl))) sa_nil) none) sa_nil))) (sa_cons (se_lst (sa_cons (se_callTy cv_tup (by rfl) A.z_tuple (by decide +kernel) (sa_cons (se_name (i := 6) rfl (by first | exact .inl rfl | exact .inr (.inl rfl) | exact .inr (.inr rfl))) sa_nil)) (sa_cons (se_callTy cv_tup (by rfl) A.z_tuple (by decide +kernel) (sa_cons (se_name (i := 7) rfl (by first | exact .inl rfl | exact .inr (.inl rfl) | exact .inr (.inr rfl))) sa_nil)) sa_nil))) sa_nil)) none))) (sb_one (ss_ret se_bl)) sb_nil)
      (sb_cons (ss_if (sw_or (st_not (st_truth (se_callG (ok__law_is A) R (by decide : 1 ≤ _) (by rfl) (sa_cons (se_callG (ok_pass_rounds A) R (by decide : 6 ≤ _) (by rfl) (sa_cons (se_name (i := 3) rfl (by first | exact .inl rfl | exact .inr (.inl rfl) | exact .inr (.inr rfl))) sa_nil) none) (sa_cons (se_callG (ok__law_rounds A) R (by decide : 1 ≤ _) (by rfl) (sa_cons (se_name (i := 3) rfl (by first | exact .inl rfl | exact .inr (.inl rfl) | exact .inr (.inr rfl))) sa_nil) none) sa_nil)) none))) (sw_or1 (st_cmp (ov_ne R.hu) (se_callB (cv_sum rfl) (by rfl) A.z_sum (by decide +kernel) (sa_cons (se_name (i := 6) rfl (by first | exact .inl rfl | exact .inr (.inl rfl) | exact .inr (.inr rfl))) sa_nil)) (se_bin ov_sub (se_name (i := 4) rfl (by first | exact .inl rfl | exact .inr (.inl rfl) | exact .inr (.inr rfl))) (se_meth PySem.F.plainAttrs_list PySem.F.slot_list_count PySem.F.type_list_count (mv_cntL R.hu5) (se_name (i := 5) rfl (by first | exact .inl rfl | exact .inr (.inl rfl) | exact .inr (.inr rfl))) (sa_cons se_non sa_nil))) (nomark _)))).st (sb_one (ss_ret se_bl)) sb_nil)
      (sb_cons (ss_asg (se_tup (sa_cons (se_callG (ok__law_no_passes A) R (by decide : 3 ≤ _) (by rfl) (sa_cons (se_name (i := 1) rfl (by first | exact .inl rfl | exact .inr (.inl rfl) | exact .inr (.inr rfl))) (sa_cons (se_name (i := 3) rfl (by first | exact .inl rfl | exact .inr (.inl rfl) | exact .inr (.inr rfl))) sa_nil)) (some 0)) (sa_cons (se_callG (ok__law_any A) R (by decide : 2 ≤ _) (by rfl) (sa_cons (se_name (i := 1) rfl (by first | exact .inl rfl | exact .inr (.inl rfl) | exact .inr (.inr rfl))) (sa_cons (se_lst (sa_cons (se_name (i := 4) rfl (by first | exact .inl rfl | exact .inr (.inl rfl) | exact .inr (.inr rfl))) (sa_cons (se_un ov_neg se_int) (sa_cons se_non (sa_cons se_bl (sa_cons se_str (sa_cons (se_tup (sa_cons se_int sa_nil)) sa_nil))))))) sa_nil)) (some 0)) sa_nil))) (sg_tup rfl (sgs_cons (sg_name (i := 8) sc_law.nd rfl (by first | exact .inl rfl | exact .inr rfl)) (sgs_cons (sg_name (i := 9) sc_law.nd rfl (by first | exact .inl rfl | exact .inr rfl)) sgs_nil))))
      (sb_cons (ss_set (i := 10) sc_law.nd rfl (by first | exact .inl rfl | exact .inr rfl) (se_lst (sa_cons (se_said A.d__law_word sc__law_word rfl rfl (by first | exact .inl rfl | exact .inr (.inl rfl) | exact .inr (.inr rfl)) (i := 1) rfl rfl (by decide) A.err rfl (by decide) ⟨.str _, fun _ => pe_str, fun _ _ _ => .str _⟩ (su__law_word A) hw__law_word TB rfl hq0 (by rfl) R (LamX.lamS_by (by rfl)) (by rfl) (fun _ _ _ _ _ => rfl) (fun A1 outer1 s1 H1 E1 f1 c1 R1 => (se_callG (ok_end_of A) (Rm.nox R1) (by decide : 6 ≤ _) (by rfl) (sa_cons (se_name (i := 8) rfl (by first | exact .inl rfl | exact .inr (.inl rfl) | exact .inr (.inr rfl))) (sa_cons (se_name (i := 9) rfl (by first | exact .inl rfl | exact .inr (.inl rfl) | exact .inr (.inr rfl))) sa_nil)) none)) (fun A1 outer1 s1 H1 E1 f1 c1 R1 => (ex_call (okx_end_of A) R1 (by decide : 6 ≤ _) (by rfl) (sa_cons (se_name (i := 8) rfl (by first | exact .inl rfl | exact .inr (.inl rfl) | exact .inr (.inr rfl))) (sa_cons (se_name (i := 9) rfl (by first | exact .inl rfl | exact .inr (.inl rfl) | exact .inr (.inr rfl))) sa_nil)))) (by rfl)) sa_nil)))
      (sb_cons (ss_expr (se_methS PySem.F.plainAttrs_list PySem.F.slot_list_append PySem.F.type_list_append mv_app (i := 10) rfl (by first | exact .inl rfl | exact .inr (.inl rfl) | exact .inr (.inr rfl)) (sa_cons (se_said A.d__law_word sc__law_word rfl rfl (by first | exact .inl rfl | exact .inr (.inl rfl) | exact .inr (.inr rfl)) (i := 1) rfl rfl (by decide) A.err rfl (by decide) ⟨.str _, fun _ => pe_str, fun _ _ _ => .str _⟩ (su__law_word A) hw__law_word TB rfl hq0 (by rfl) R (LamX.lamS_by (by rfl)) (by rfl) (fun _ _ _ _ _ => rfl) (fun A1 outer1 s1 H1 E1 f1 c1 R1 => (se_callG (ok_end_of A) (Rm.nox R1) (by decide : 6 ≤ _) (by rfl) (sa_cons (se_name (i := 3) rfl (by first | exact .inl rfl | exact .inr (.inl rfl) | exact .inr (.inr rfl))) (sa_cons (se_name (i := 9) rfl (by first | exact .inl rfl | exact .inr (.inl rfl) | exact .inr (.inr rfl))) sa_nil)) none)) (fun A1 outer1 s1 H1 E1 f1 c1 R1 => (ex_call (okx_end_of A) R1 (by decide : 6 ≤ _) (by rfl) (sa_cons (se_name (i := 3) rfl (by first | exact .inl rfl | exact .inr (.inl rfl) | exact .inr (.inr rfl))) (sa_cons (se_name (i := 9) rfl (by first | exact .inl rfl | exact .inr (.inl rfl) | exact .inr (.inr rfl))) sa_nil)))) (by rfl)) sa_nil)))
      (sb_cons (ss_expr (se_methS PySem.F.plainAttrs_list PySem.F.slot_list_append PySem.F.type_list_append mv_app (i := 10) rfl (by first | exact .inl rfl | exact .inr (.inl rfl) | exact .inr (.inr rfl)) (sa_cons (se_said A.d__law_word sc__law_word rfl rfl (by first | exact .inl rfl | exact .inr (.inl rfl) | exact .inr (.inr rfl)) (i := 1) rfl rfl (by decide) A.err rfl (by decide) ⟨.str _, fun _ => pe_str, fun _ _ _ => .str _⟩ (su__law_word A) hw__law_word TB rfl hq0 (by rfl) R (LamX.lamS_by (by rfl)) (by rfl) (fun _ _ _ _ _ => rfl) (fun A1 outer1 s1 H1 E1 f1 c1 R1 => (se_callG (ok_weights A) (Rm.nox R1) (by decide : 6 ≤ _) (by rfl) (sa_cons (se_name (i := 8) rfl (by first | exact .inl rfl | exact .inr (.inl rfl) | exact .inr (.inr rfl))) sa_nil) none)) (fun A1 outer1 s1 H1 E1 f1 c1 R1 => (ex_call (okx_weights A) R1 (by decide : 6 ≤ _) (by rfl) (sa_cons (se_name (i := 8) rfl (by first | exact .inl rfl | exact .inr (.inl rfl) | exact .inr (.inr rfl))) sa_nil))) (by rfl)) sa_nil)))
      (sb_cons (ss_expr (se_methS PySem.F.plainAttrs_list PySem.F.slot_list_append PySem.F.type_list_append mv_app (i := 10) rfl (by first | exact .inl rfl | exact .inr (.inl rfl) | exact .inr (.inr rfl)) (sa_cons (se_said A.d__law_word sc__law_word rfl rfl (by first | exact .inl rfl | exact .inr (.inl rfl) | exact .inr (.inr rfl)) (i := 1) rfl rfl (by decide) A.err rfl (by decide) ⟨.str _, fun _ => pe_str, fun _ _ _ => .str _⟩ (su__law_word A) hw__law_word TB rfl hq0 (by rfl) R (LamX.lamS_by (by rfl)) (by rfl) (fun _ _ _ _ _ => rfl) (fun A1 outer1 s1 H1 E1 f1 c1 R1 => (se_callG (ok_outcome A) (Rm.nox R1) (by decide : 6 ≤ _) (by rfl) (sa_cons (se_name (i := 8) rfl (by first | exact .inl rfl | exact .inr (.inl rfl) | exact .inr (.inr rfl))) sa_nil) none)) (fun A1 outer1 s1 H1 E1 f1 c1 R1 => (ex_call (okx_outcome A) R1 (by decide : 6 ≤ _) (by rfl) (sa_cons (se_name (i := 8) rfl (by first | exact .inl rfl | exact .inr (.inl rfl) | exact .inr (.inr rfl))) sa_nil))) (by rfl)) sa_nil)))
      (sb_cons (ss_expr (se_methS PySem.F.plainAttrs_list PySem.F.slot_list_append PySem.F.type_list_append mv_app (i := 10) rfl (by first | exact .inl rfl | exact .inr (.inl rfl) | exact .inr (.inr rfl)) (sa_cons (se_said A.d__law_word sc__law_word rfl rfl (by first | exact .inl rfl | exact .inr (.inl rfl) | exact .inr (.inr rfl)) (i := 1) rfl rfl (by decide) A.err rfl (by decide) ⟨.str _, fun _ => pe_str, fun _ _ _ => .str _⟩ (su__law_word A) hw__law_word TB rfl hq0 (by rfl) R (LamX.lamS_by (by rfl)) (by rfl) (fun _ _ _ _ _ => rfl) (fun A1 outer1 s1 H1 E1 f1 c1 R1 => (se_callG (ok_pass_rounds A) (Rm.nox R1) (by decide : 6 ≤ _) (by rfl) (sa_cons (se_name (i := 8) rfl (by first | exact .inl rfl | exact .inr (.inl rfl) | exact .inr (.inr rfl))) sa_nil) none)) (fun A1 outer1 s1 H1 E1 f1 c1 R1 => (ex_call (okx_pass_rounds A) R1 (by decide : 6 ≤ _) (by rfl) (sa_cons (se_name (i := 8) rfl (by first | exact .inl rfl | exact .inr (.inl rfl) | exact .inr (.inr rfl))) sa_nil))) (by rfl)) sa_nil)))
      (sb_one (ss_if (st_cmp (ov_ne R.hu) (se_name (i := 10) rfl (by first | exact .inl rfl | exact .inr (.inl rfl) | exact .inr (.inr rfl))) (se_lst (sa_cons se_str (sa_cons se_str (sa_cons se_str (sa_cons se_str (sa_cons se_str sa_nil)))))) (nomark _)) (sb_one (ss_ret se_bl)) sb_nil)))))))))))))))))
      (sb_one (ss_ret se_bl))))
end
end K50
set_option Elab.async false
set_option linter.all false
set_option maxRecDepth 100000
set_option maxHeartbeats 4000000
namespace K50
open PySem L2 Iv PyProof.Rows
theorem s_within (d : Dt) (h : noD d = true) (lo hi : Int) : c_is_within [.sh d, .sh (.int lo), .sh (.int hi)] = some ((.bool (Iv.inR d lo hi), false), [.un, .un, .un]) := within_spec d h lo hi
theorem s_sized (d : Dt) (h : noD d = true) (lo hi : Int) : c_is_sized [.sh d, .sh (.int lo), .sh (.int hi)] = some ((.bool (szR d lo hi), false), [.un, .un, .un]) := sized_spec d h lo hi
theorem dD : DrawOk c__law_draw := fun h ok many h0 h1 => draw_specA h ok many h0 h1
theorem s_any (h : Hand) (ok : h.Ok) (ds : List Dt) (h0 : ds ≠ []) (h1 : ds.length ≤ 100000) : ∃ d ∈ ds, ∃ h' : Hand, h'.Ok ∧ c__law_any [.ow true h.d, .sh (.list ds)] = some ((d, false), [.ow true h'.d, .un]) := some_spec dD h ok ds h0 h1
theorem s_hand (ns : List Int) (h : ns.length ≤ 63) : c__law_hand [.sh (.list (ns.map .int))] = some (((hand0 47569 ns).d, true), [.un]) := hand_spec 47569 ns h
theorem s_is (d : PyData) (h : ∃ x, fRepr [d] = some (.v (.str x))) : c__law_is [.sh d, .sh d] = some ((.bool true, false), [.un, .un]) := is_spec d h
abbrev sO : Str := Str.ofString "own"
abbrev sT : Str := Str.ofString "to"
abbrev sN : Str := Str.ofString "none"
@[simp] theorem n1 : (sO = sT) = False := by simp only [eq_iff_iff, iff_false]; decide
@[simp] theorem n2 : (sT = sO) = False := by simp only [eq_iff_iff, iff_false]; decide
@[simp] theorem n3 : (sN = sT) = False := by simp only [eq_iff_iff, iff_false]; decide
@[simp] theorem n4 : (sN = sO) = False := by simp only [eq_iff_iff, iff_false]; decide
@[simp] theorem n5 : (sO = sN) = False := by simp only [eq_iff_iff, iff_false]; decide
@[simp] theorem n6 : (sT = sN) = False := by simp only [eq_iff_iff, iff_false]; decide
theorem nin12 (k : Int) : dNin (.int k) (.tuple [.int 1, .int 2]) = some (.v (.bool (!(k == 1 || k == 2)))) := by
  have := v_ninT [1, 2] k
  simp only [List.map_cons, List.map_nil] at this
  rw [this]
  simp [Bool.beq_eq_decide_eq, eq_comm]
def isPs (n : Int) : Dt → Bool
  | .tuple [.str x] => decide (x = sN)
  | .tuple [.str x, e] => if x = sO then Iv.inR e 0 5 else if x = sT then Iv.inR e 0 (n - 1) else false
  | _ => false
def good2 : Dt → Bool
  | .tuple ds => ds.all noD
  | .dict _ => false
  | _ => true
theorem s_is_pass (n : Int) (d : Dt) (h : good2 d = true) : c_is_pass [.sh (.int n), .sh d] = some ((.bool (isPs n d), false), [.un, .un]) := by
  have e0 : c_is_pass [.sh (.int n), .sh d] = kFn [.sh (.int n), .sh d] (b_is_pass [.sh (.int n), .sh d]) := e_gFn _ _ _ _ rfl (by decide) rfl
  rw [e0]
  unfold b_is_pass
  cases d with
  | tuple ds =>
    cases ds with
    | nil => simp [isi_tuple, nin12, isPs]
    | cons a r =>
      have ha : noD a = true := by
        have h : (a :: r).all noD = true := h
        rw [List.all_cons, Bool.and_eq_true] at h
        exact h.1
      cases r with
      | nil =>
        cases a with
        | str x => by_cases hx : x = sN <;> simp [isi_tuple, isi_str, nin12, isPs, hx]
        | dict xs => cases ha
        | _ => simp [isi_tuple, isi_str, nin12, isPs]
      | cons b r =>
        have hb : noD b = true := by
          have h : (a :: b :: r).all noD = true := h
          rw [List.all_cons, List.all_cons, Bool.and_eq_true, Bool.and_eq_true] at h
          exact h.2.1
        cases r with
        | nil =>
          have w1 := s_within b hb 0 5
          have w2 := s_within b hb 0 (n - 1)
          cases a with
          | str x =>
            by_cases hx : x = sO
            · subst hx
              simp [isi_tuple, isi_str, nin12, isPs, w1]
            · by_cases hy : x = sT
              · subst hy
                simp [isi_tuple, isi_str, nin12, isPs, w2]
              · simp [isi_tuple, isi_str, nin12, isPs, hx, hy]
          | dict xs => cases ha
          | _ => simp [isi_tuple, isi_str, nin12, isPs]
        | cons c r =>
          have hk : dNin (.int ((r.length : Int) + 1 + 1 + 1)) (.tuple [.int 1, .int 2]) = some (.v (.bool true)) := by
            rw [nin12]
            have l1 : ((r.length : Int) + 1 + 1 + 1 == 1) = false := beq_eq_false_iff_ne.mpr (by omega)
            have l2 : ((r.length : Int) + 1 + 1 + 1 == 2) = false := beq_eq_false_iff_ne.mpr (by omega)
            rw [l1, l2]
            rfl
          simp [isi_tuple, hk, isPs]
  | dict xs => cases h
  | _ => simp [isi_tuple, isPs]
end K50
set_option Elab.async false
set_option linter.all false
set_option maxRecDepth 100000
set_option maxHeartbeats 4000000
namespace K50
open PySem L2 Iv PyProof.Rows
inductive Ps where
  | own (c : Nat)
  | to (v : Nat)
  | none
  deriving DecidableEq
def pe : Ps → Dt
  | .own c => .tuple [.str sO, .int (c : Int)]
  | .to v => .tuple [.str sT, .int (v : Int)]
  | .none => .tuple [.str sN]
theorem sh2 (x : Str) (hx : PyData.strOk x = true) (v : Int) : SeqAt.shaped (.tuple [.str x, .int v]) = true := by
  simp [SeqAt.shaped, PyData.canLay0, PyData.canLayAll0, PyData.depth, PyData.depthAll, hx]
theorem sh1 (x : Str) (hx : PyData.strOk x = true) : SeqAt.shaped (.tuple [.str x]) = true := by
  simp [SeqAt.shaped, PyData.canLay0, PyData.canLayAll0, PyData.depth, PyData.depthAll, hx]
theorem oO : PyData.strOk sO = true := by decide +kernel
theorem oT : PyData.strOk sT = true := by decide +kernel
theorem oN : PyData.strOk sN = true := by decide +kernel
theorem sh_pe (p : Ps) : SeqAt.shaped (pe p) = true := by
  cases p
  · exact sh2 _ oO _
  · exact sh2 _ oT _
  · exact sh1 _ oN
theorem eq_to (p : Ps) (v : Nat) : dEq (pe p) (.tuple [.str sT, .int (v : Int)]) = some (.v (.bool (decide (p = .to v)))) := by
  have hs := sh_pe p
  have ht := sh2 sT oT (v : Int)
  cases p with
  | own c =>
    show (if _ then _ else _) = _
    rw [if_pos ⟨hs, ht⟩]
    simp [pe, PyData.eqv, PyData.eqvAll]
  | to w =>
    show (if _ then _ else _) = _
    rw [if_pos ⟨hs, ht⟩]
    by_cases h : w = v
    · simp [pe, PyData.eqv, PyData.eqvAll, h]
    · have : ¬ (w : Int) = v := by omega
      simp [pe, PyData.eqv, PyData.eqvAll, h, this]
  | none =>
    show (if _ then _ else _) = _
    rw [if_pos ⟨hs, ht⟩]
    simp [pe, PyData.eqv, PyData.eqvAll]
theorem eq_own (p : Ps) (c : Nat) : dEq (pe p) (.tuple [.str sO, .int (c : Int)]) = some (.v (.bool (decide (p = .own c)))) := by
  have hs := sh_pe p
  have ht := sh2 sO oO (c : Int)
  cases p with
  | own d =>
    show (if _ then _ else _) = _
    rw [if_pos ⟨hs, ht⟩]
    by_cases h : d = c
    · simp [pe, PyData.eqv, PyData.eqvAll, h]
    · have : ¬ (d : Int) = c := by omega
      simp [pe, PyData.eqv, PyData.eqvAll, h, this]
  | to w =>
    show (if _ then _ else _) = _
    rw [if_pos ⟨hs, ht⟩]
    simp [pe, PyData.eqv, PyData.eqvAll]
  | none =>
    show (if _ then _ else _) = _
    rw [if_pos ⟨hs, ht⟩]
    simp [pe, PyData.eqv, PyData.eqvAll]
abbrev TP (L : List Ps) : Dt := .tuple (L.map pe)
/-- passes of n voters -/
structure Val (L : List Ps) : Prop where
  lo : 1 ≤ L.length
  hi : L.length ≤ 8
  own : ∀ c, Ps.own c ∈ L → c ≤ 5
  to : ∀ v, Ps.to v ∈ L → v < L.length
  self : ∀ (i : Nat) (h : i < L.length), L[i] ≠ .to i
def good3 (d : Dt) : Bool := noD d && (match d with
  | .tuple ds => ds.all good2
  | _ => true)
def allPs (d : Dt) : Bool := match d with
  | .tuple ds => ds.all (isPs (ds.length : Int))
  | _ => false
/-- the first look -/
theorem q1 {d : Dt} (h : good3 d = true) (s2 : Sl) : (mOr (mNot (mTruth (mCallF 3 c_is_sized none (mA (mName 0) (mA (mK (.int 1)) (mA (mK (.int 8)) mA0)))))) (mNot (mTruth (mCall fAll (mA (mComp (mHold (mName 0)) [1] (bName 1) tAll E_are_passes_2) mA0))))) [.sh d, .un, s2] = some (!(szR d 1 8 && allPs d), [.sh d, .un, s2]) := by
  unfold good3 at h
  rw [Bool.and_eq_true] at h
  have z := s_sized d h.1 1 8
  cases hs : szR d 1 8 with
  | false => rw [hs] at z; simp [z]
  | true =>
    rw [hs] at z
    cases d with
    | tuple ds =>
      have hl : ds.length ≤ 1000 := by
        unfold szR at hs
        simp only [Bool.and_eq_true, decide_eq_true_eq] at hs
        omega
      have m := compL_any (vs := [1]) (b := bName 1) (t := tAll) (me := E_are_passes_2) (τ := [.sh (.tuple ds), .un, s2]) (fun x => .bool (isPs (ds.length : Int) x)) (ds := ds) (fun x hx => by
        have hn := List.all_eq_true.mp h.2 x hx
        unfold E_are_passes_2
        simp [s_is_pass (ds.length : Int) x hn]) hl
      simp [z, m, v_allM, -Iv.v_all, allPs]
    | _ => cases hs
theorem s_are_bad {d : Dt} (h : good3 d = true) (hb : (szR d 1 8 && allPs d) = false) : c_are_passes [.sh d] = some ((.bool false, false), [.un]) := by
  have e0 : c_are_passes [.sh d] = kFn [.sh d] (b_are_passes [.sh d, .un, .un]) := e_gFn _ _ _ _ rfl (by decide) rfl
  have q := q1 h .un
  rw [hb] at q
  rw [e0]
  unfold b_are_passes
  generalize (mOr _ _) = T at q
  simp [q]
theorem enum_map {α : Type} (f : α → Dt) : ∀ (l : List α) (k : Nat), enumD (k : Int) (l.map f) = (l.zipIdx k).map fun p => .tuple [.int (p.2 : Int), f p.1]
  | [], k => rfl
  | x :: l, k => by
    rw [List.map_cons, List.zipIdx_cons, List.map_cons, enumD]
    have := enum_map f l (k + 1)
    rw [show ((k : Int) + 1) = ((k + 1 : Nat) : Int) from by omega, this]
theorem v_anyM {α : Type} (f : α → Bool) (ds : List α) : fAny [.list (ds.map fun d => .bool (f d))] = some (.v (.bool (ds.any f))) := by
  show (blsOf _).map _ = _
  rw [bls_map]
  simp [List.any_map, Function.comp_def]
theorem good3_TP (L : List Ps) : good3 (TP L) = true := by
  unfold good3
  simp only [noD_tuple, Bool.true_and, List.all_map, List.all_eq_true]
  intro p _
  cases p <;> rfl
theorem s_are {L : List Ps} (h8 : L.length ≤ 8) (hb : (szR (TP L) 1 8 && allPs (TP L)) = true) : c_are_passes [.sh (TP L)] = some ((.bool (!(L.zipIdx 0).any fun p => decide (p.1 = .to p.2)), false), [.un]) := by
  have e0 : c_are_passes [.sh (TP L)] = kFn [.sh (TP L)] (b_are_passes [.sh (TP L), .un, .un]) := e_gFn _ _ _ _ rfl (by decide) rfl
  have q := q1 (good3_TP L) .un
  rw [hb] at q
  have en := enum_map pe L 0
  have m : compL [2, 1] (bTup 2 (bCons (bName 2) (bCons (bName 1) bNil))) tAll E_are_passes_1 (enumD 0 (L.map pe)) [] [.sh (TP L), .un, .un] = some ((L.zipIdx 0).map (fun p => .bool (decide (p.1 = .to p.2))), [.sh (TP L), .un, .un]) := by
    rw [show (0 : Int) = ((0 : Nat) : Int) from rfl, en]
    refine compL_all (fun p : Ps × Nat => .tuple [.int (p.2 : Int), pe p.1]) (fun p => .bool (decide (p.1 = .to p.2))) (fun p _ => ?_) (by simp; omega)
    unfold E_are_passes_1
    simp [eq_to p.1 p.2]
  have va := v_anyM (fun p : Ps × Nat => decide (p.1 = .to p.2)) (L.zipIdx 0)
  rw [e0]
  unfold b_are_passes
  generalize (mOr _ _) = T at q
  generalize ((L.zipIdx 0).map fun p => PyData.bool (decide (p.1 = .to p.2))) = G at m va
  generalize ((L.zipIdx 0).any fun p => decide (p.1 = .to p.2)) = g at va ⊢
  simp [q, m, va]
end K50
set_option Elab.async false
set_option linter.all false
set_option maxRecDepth 100000
set_option maxHeartbeats 4000000
namespace K50
open PySem L2 Iv PyProof.Rows
theorem Val.fst {L : List Ps} (V : Val L) : (szR (TP L) 1 8 && allPs (TP L)) = true := by
  have h1 := V.lo
  have h2 := V.hi
  unfold szR allPs
  simp only [List.length_map, List.all_map, Bool.and_eq_true, decide_eq_true_eq, List.all_eq_true, Function.comp]
  refine ⟨by omega, fun p hp => ?_⟩
  cases p with
  | own c =>
    have := V.own c hp
    simp [pe, isPs, Iv.inR]
    omega
  | to v =>
    have := V.to v hp
    simp [pe, isPs, Iv.inR]
    omega
  | none => simp [pe, isPs]
theorem Val.snd {L : List Ps} (V : Val L) : ((L.zipIdx 0).any fun p => decide (p.1 = .to p.2)) = false := by
  rw [List.any_eq_false]
  intro p hp
  rw [List.mem_zipIdx_iff_getElem?] at hp
  simp only [decide_eq_true_eq]
  intro e
  obtain ⟨h1, h2⟩ := List.getElem?_eq_some_iff.mp hp
  exact V.self _ h1 (by rw [h2]; exact e)
theorem s_are_ok {L : List Ps} (V : Val L) : c_are_passes [.sh (TP L)] = some ((.bool true, false), [.un]) := by
  rw [s_are V.hi V.fst, V.snd]
  rfl
theorem s_check {L : List Ps} (V : Val L) : c_check_passes [.sh (TP L)] = some ((.none, false), [.un]) := by
  have e0 : c_check_passes [.sh (TP L)] = kFn [.sh (TP L)] (b_check_passes [.sh (TP L)]) := e_gFn _ _ _ _ rfl (by decide) rfl
  rw [e0]
  unfold b_check_passes
  simp [s_are_ok V]
theorem x_ok {L : List Ps} (V : Val L) : x_check_passes [.sh (TP L)] = none := by
  have e0 : x_check_passes [.sh (TP L)] = xb_check_passes [.sh (TP L)] := e_gX _ _ _ _ rfl (by decide) rfl
  rw [e0]
  unfold xb_check_passes
  simp [s_are_ok V]
/-- no passes -/
def NoP (d : Dt) : Prop := c_are_passes [.sh d] = some ((.bool false, false), [.un])
theorem x_no {d : Dt} (h : NoP d) : x_check_passes [.sh d] = some "NoPasses" := by
  have e0 : x_check_passes [.sh d] = xb_check_passes [.sh d] := e_gX _ _ _ _ rfl (by decide) rfl
  unfold NoP at h
  rw [e0]
  unfold xb_check_passes
  simp [h]
theorem x_end {d v : Dt} (h : NoP d) : x_end_of [.sh d, .sh v] = some "NoPasses" := by
  have e0 : x_end_of [.sh d, .sh v] = xb_end_of [.sh d, .sh v] := e_gX _ _ _ _ rfl (by decide) rfl
  rw [e0]
  unfold xb_end_of
  simp [x_no h]
theorem x_wei {d : Dt} (h : NoP d) : x_weights [.sh d] = some "NoPasses" := by
  have e0 : x_weights [.sh d] = xb_weights [.sh d] := e_gX _ _ _ _ rfl (by decide) rfl
  rw [e0]
  unfold xb_weights
  simp [x_no h]
theorem x_out {d : Dt} (h : NoP d) : x_outcome [.sh d] = some "NoPasses" := by
  have e0 : x_outcome [.sh d] = xb_outcome [.sh d] := e_gX _ _ _ _ rfl (by decide) rfl
  rw [e0]
  unfold xb_outcome
  simp [x_no h]
theorem x_rou {d : Dt} (h : NoP d) : x_pass_rounds [.sh d] = some "NoPasses" := by
  have e0 : x_pass_rounds [.sh d] = xb_pass_rounds [.sh d, .un, .un, .un, .un] := e_gX _ _ _ _ rfl (by decide) rfl
  rw [e0]
  unfold xb_pass_rounds
  simp [x_no h]
theorem x_end2 {L : List Ps} (V : Val L) {v : Dt} (hv : noD v = true ∧ Iv.inR v 0 ((L.length : Int) - 1) = false) : x_end_of [.sh (TP L), .sh v] = some "NoVoter" := by
  have e0 : x_end_of [.sh (TP L), .sh v] = xb_end_of [.sh (TP L), .sh v] := e_gX _ _ _ _ rfl (by decide) rfl
  have z := s_within v hv.1 0 ((L.length : Int) - 1)
  rw [hv.2] at z
  have xv : x_check_voter [.sh (.int (L.length : Int)), .sh v] = some "NoVoter" := by
    have e1 : x_check_voter [.sh (.int (L.length : Int)), .sh v] = xb_check_voter [.sh (.int (L.length : Int)), .sh v] := e_gX _ _ _ _ rfl (by decide) rfl
    rw [e1]
    unfold xb_check_voter
    simp [z]
  rw [e0]
  unfold xb_end_of
  simp [x_ok V, s_check V, xv]
theorem s_voter {L : List Ps} {i : Nat} (hi : i < L.length) : c_check_voter [.sh (.int (L.length : Int)), .sh (.int (i : Int))] = some ((.none, false), [.un, .un]) := by
  have e0 : c_check_voter [.sh (.int (L.length : Int)), .sh (.int (i : Int))] = kFn [.sh (.int (L.length : Int)), .sh (.int (i : Int))] (b_check_voter [.sh (.int (L.length : Int)), .sh (.int (i : Int))]) := e_gFn _ _ _ _ rfl (by decide) rfl
  have z := s_within (.int (i : Int)) rfl 0 ((L.length : Int) - 1)
  have hz : Iv.inR (.int (i : Int)) 0 ((L.length : Int) - 1) = true := by
    unfold Iv.inR
    simp only [Bool.and_eq_true, decide_eq_true_eq]
    omega
  rw [hz] at z
  rw [e0]
  unfold b_check_voter
  simp [z]
/-! ### where a vote ends -/
def endF (L : List Ps) : Nat → Nat → Option Nat
  | 0, _ => none
  | k + 1, v => match L[v]? with
    | some (.to w) => endF L k w
    | _ => some v
def optD : Option Nat → Dt
  | some e => .int (e : Int)
  | none => .none
theorem at_L {L : List Ps} {v : Nat} (h : v < L.length) : atI (L.map pe) (v : Int) = some (pe L[v]) := atI_nat (by rw [List.getElem?_map, List.getElem?_eq_getElem h]; rfl)
end K50
set_option Elab.async false
set_option linter.all false
set_option maxRecDepth 100000
set_option maxHeartbeats 4000000
namespace K50
open PySem L2 Iv PyProof.Rows
theorem pe_to (w : Nat) : pe (.to w) = .tuple [.str sT, .int (w : Int)] := rfl
@[simp] theorem at_hd (d : Dt) (r : List Dt) : atI (d :: r) 0 = some d := by
  have h : atI (d :: r) ((0 : Nat) : Int) = some d := atI_nat (by simp)
  exact h
/-- what one step of the loops does -/
theorem end_step {L : List Ps} {v : Nat} (h : v < L.length) : (∃ w, L[v] = .to w) ∨ (∀ w, L[v] ≠ .to w) := by
  cases L[v] with
  | to w => exact .inl ⟨w, rfl⟩
  | own c => exact .inr fun w z => nomatch z
  | none => exact .inr fun w z => nomatch z
theorem endF_to {L : List Ps} {v w k : Nat} (h : v < L.length) (e : L[v] = .to w) : endF L (k + 1) v = endF L k w := by
  rw [endF, List.getElem?_eq_getElem h, e]
theorem endF_no {L : List Ps} {v k : Nat} (h : v < L.length) (e : ∀ w, L[v] ≠ .to w) : endF L (k + 1) v = some v := by
  rw [endF, List.getElem?_eq_getElem h]
  cases hv : L[v] with
  | to w => exact absurd hv (e w)
  | own c => rfl
  | none => rfl
theorem pe_no {p : Ps} (e : ∀ w, p ≠ .to w) : ∃ x r, pe p = .tuple (.str x :: r) ∧ (x = sT) = False := by
  cases p with
  | to w => exact absurd rfl (e w)
  | own c => exact ⟨_, _, rfl, n1⟩
  | none => exact ⟨_, _, rfl, n3⟩
section
variable {L : List Ps} (V : Val L)
include V
theorem Val.lt {v w : Nat} (h : v < L.length) (e : L[v] = .to w) : w < L.length := V.to w (e ▸ List.getElem_mem h)
theorem loop_end : ∀ (items : List Dt) (v : Nat) (s2 : Sl), v < L.length → fr s2 = true →
    (∃ e s2', endF L items.length v = some e ∧ e < L.length ∧ forL (bName 2) L_raw_end_1 items [.sh (TP L), .sh (.int (v : Int)), s2] = some (.rt (.int (e : Int)) false, [.sh (TP L), .sh (.int (e : Int)), s2'])) ∨
    (∃ (v' : Nat) (s2' : Sl), endF L items.length v = none ∧ forL (bName 2) L_raw_end_1 items [.sh (TP L), .sh (.int (v : Int)), s2] = some (.nx, [.sh (TP L), .sh (.int (v' : Int)), s2']))
  | [], v, s2, hv, f2 => .inr ⟨v, s2, rfl, rfl⟩
  | d :: items, v, s2, hv, f2 => by
    have ha := at_L hv
    rcases end_step hv with ⟨w, hw⟩ | hn
    · have hw2 := V.lt hv hw
      have e1 : kL1 L_raw_end_1 (bName 2 d [.sh (TP L), .sh (.int (v : Int)), s2]) = some (.nx, [.sh (TP L), .sh (.int (w : Int)), .sh d]) := by
        rw [hw, pe_to] at ha
        unfold L_raw_end_1
        simp [f2, ha]
      rw [e_forL1, e1, List.length_cons, endF_to hv hw]
      exact loop_end items w (.sh d) hw2 rfl
    · obtain ⟨x, r, hx, hne⟩ := pe_no hn
      have e1 : kL1 L_raw_end_1 (bName 2 d [.sh (TP L), .sh (.int (v : Int)), s2]) = some (.rt (.int (v : Int)) false, [.sh (TP L), .sh (.int (v : Int)), .sh d]) := by
        rw [hx] at ha
        unfold L_raw_end_1
        simp [f2, ha, hne]
      rw [e_forL1, e1, List.length_cons, endF_no hv hn]
      exact .inl ⟨v, .sh d, rfl, hv, rfl⟩
theorem loop_lend {t1 : Sl} : ∀ (items : List Dt) (v : Nat) (s3 : Sl), v < L.length → fr s3 = true →
    (∃ e s3', endF L items.length v = some e ∧ e < L.length ∧ forL (bName 3) L__law_end_1 items [.sh (TP L), t1, .sh (.int (v : Int)), s3] = some (.rt (.int (e : Int)) false, [.sh (TP L), t1, .sh (.int (e : Int)), s3'])) ∨
    (∃ (v' : Nat) (s3' : Sl), endF L items.length v = none ∧ forL (bName 3) L__law_end_1 items [.sh (TP L), t1, .sh (.int (v : Int)), s3] = some (.nx, [.sh (TP L), t1, .sh (.int (v' : Int)), s3']))
  | [], v, s3, hv, f3 => .inr ⟨v, s3, rfl, rfl⟩
  | d :: items, v, s3, hv, f3 => by
    have ha := at_L hv
    rcases end_step hv with ⟨w, hw⟩ | hn
    · have hw2 := V.lt hv hw
      have e1 : kL1 L__law_end_1 (bName 3 d [.sh (TP L), t1, .sh (.int (v : Int)), s3]) = some (.nx, [.sh (TP L), t1, .sh (.int (w : Int)), .sh d]) := by
        rw [hw, pe_to] at ha
        unfold L__law_end_1
        simp [f3, ha]
      rw [e_forL1, e1, List.length_cons, endF_to hv hw]
      exact loop_lend items w (.sh d) hw2 rfl
    · obtain ⟨x, r, hx, hne⟩ := pe_no hn
      have e1 : kL1 L__law_end_1 (bName 3 d [.sh (TP L), t1, .sh (.int (v : Int)), s3]) = some (.rt (.int (v : Int)) false, [.sh (TP L), t1, .sh (.int (v : Int)), .sh d]) := by
        rw [hx] at ha
        unfold L__law_end_1
        simp [f3, ha, hne]
      rw [e_forL1, e1, List.length_cons, endF_no hv hn]
      exact .inl ⟨v, .sh d, rfl, hv, rfl⟩
/-- the end of voter v's vote -/
theorem s_raw_end {v : Nat} (hv : v < L.length) : c_raw_end [.sh (TP L), .sh (.int (v : Int))] = some ((optD (endF L (L.length + 1) v), false), [.un, .un]) := by
  have e0 : c_raw_end [.sh (TP L), .sh (.int (v : Int))] = kFn [.sh (TP L), .sh (.int (v : Int))] (b_raw_end [.sh (TP L), .sh (.int (v : Int)), .un]) := e_gFn _ _ _ _ rfl (by decide) rfl
  have hhi := V.hi
  have okr : okR ((L.length : Int) + 1) = true := by unfold okR; exact decide_eq_true (by omega)
  have tn : ((L.length : Int) + 1).toNat = L.length + 1 := by omega
  have hlen : (rangeD 0 (L.length + 1)).length = L.length + 1 := by unfold rangeD; simp
  rw [e0]
  unfold b_raw_end
  rcases loop_end V (rangeD 0 (L.length + 1)) v .un hv rfl with ⟨e, s2', h1, h2, h3⟩ | ⟨v', s2', h1, h3⟩
  · rw [hlen] at h1
    simp [okr, tn, h3, h1, optD]
  · rw [hlen] at h1
    simp [okr, tn, h3, h1, optD]
theorem s_law_end {v : Nat} (hv : v < L.length) : c__law_end [.sh (TP L), .sh (.int (v : Int))] = some ((optD (endF L (L.length + 1) v), false), [.un, .un]) := by
  have e0 : c__law_end [.sh (TP L), .sh (.int (v : Int))] = kFn [.sh (TP L), .sh (.int (v : Int))] (b__law_end [.sh (TP L), .sh (.int (v : Int)), .un, .un]) := e_gFn _ _ _ _ rfl (by decide) rfl
  have hhi := V.hi
  have okr : okR ((L.length : Int) + 1) = true := by unfold okR; exact decide_eq_true (by omega)
  have tn : ((L.length : Int) + 1).toNat = L.length + 1 := by omega
  have hlen : (rangeD 0 (L.length + 1)).length = L.length + 1 := by unfold rangeD; simp
  rw [e0]
  unfold b__law_end
  rcases loop_lend V (t1 := .sh (.int (v : Int))) (rangeD 0 (L.length + 1)) v .un hv rfl with ⟨e, s2', h1, h2, h3⟩ | ⟨v', s2', h1, h3⟩
  · rw [hlen] at h1
    simp [okr, tn, h3, h1, optD]
  · rw [hlen] at h1
    simp [okr, tn, h3, h1, optD]
theorem s_end_of {v : Nat} (hv : v < L.length) : c_end_of [.sh (TP L), .sh (.int (v : Int))] = some ((optD (endF L (L.length + 1) v), false), [.un, .un]) := by
  have e0 : c_end_of [.sh (TP L), .sh (.int (v : Int))] = kFn [.sh (TP L), .sh (.int (v : Int))] (b_end_of [.sh (TP L), .sh (.int (v : Int))]) := e_gFn _ _ _ _ rfl (by decide) rfl
  have q := s_raw_end V hv
  have c1 := s_voter hv
  rw [e0]
  unfold b_end_of
  generalize hg : optD (endF L (L.length + 1) v) = D at q ⊢
  simp [s_check V, c1, q]
theorem end_lt {k v e : Nat} (hv : v < L.length) (h : endF L k v = some e) : e < L.length := by
  induction k generalizing v with
  | zero => cases h
  | succ k ih =>
    rcases end_step hv with ⟨w, hw⟩ | hn
    · rw [endF_to hv hw] at h
      exact ih (V.lt hv hw) h
    · rw [endF_no hv hn] at h
      cases h
      exact hv
end
end K50
set_option Elab.async false
set_option linter.all false
set_option maxRecDepth 100000
set_option maxHeartbeats 4000000
namespace K50
open PySem L2 Iv PyProof.Rows
/-! ### rows of counts -/
abbrev rowD (n : Nat) (f : Nat → Nat) : List Dt := (List.range n).map fun (k : Nat) => PyData.int ((f k : Nat) : Int)
def upf (f : Nat → Nat) (e m k : Nat) : Nat := if k = e then f k + m else f k
theorem row_at {n e : Nat} (f : Nat → Nat) (h : e < n) : atI (rowD n f) (e : Int) = some (.int (f e : Nat)) := atI_nat (by simp [rowD, h])
theorem row_set {n e : Nat} (f : Nat → Nat) (m : Nat) (h : e < n) : setD (.list (rowD n f)) (.int (e : Int)) (.int ((f e + m : Nat) : Int)) = some (.list (rowD n (upf f e m))) := by
  have hi : ixN (rowD n f).length (e : Int) = some e := by
    unfold ixN rowD
    simp
    omega
  rw [v_put1, hi]
  show some (PyData.list _) = _
  congr 2
  apply List.ext_getElem
  · simp
  · intro k h1 h2
    simp only [rowD, List.getElem_set, List.getElem_map, List.getElem_range, upf]
    by_cases hk : e = k
    · subst hk; simp
    · rw [if_neg hk, if_neg (fun z => hk z.symm)]
section
variable {L : List Ps} (V : Val L)
include V
def ef (L : List Ps) (v : Nat) : Option Nat := endF L (L.length + 1) v
/-- how many of the first j votes end at e -/
def cnt (L : List Ps) (j e : Nat) : Nat := (List.range j).countP fun v => decide (ef L v = some e)
theorem cnt_succ (j e : Nat) : cnt L (j + 1) e = cnt L j e + if ef L j = some e then 1 else 0 := by
  unfold cnt
  rw [List.range_succ, List.countP_append, List.countP_singleton]
  simp
theorem loop_wei : ∀ (k j : Nat) (s2 s3 : Sl), fr s2 = true → fr s3 = true → j + k ≤ L.length → ∃ s2' s3',
    forL (bName 2) L_raw_weights_1 ((List.range' j k).map fun (i : Nat) => PyData.int (i : Int)) [.sh (TP L), .ow false (.list (rowD L.length (cnt L j))), s2, s3] = some (.nx, [.sh (TP L), .ow false (.list (rowD L.length (cnt L (j + k)))), s2', s3'])
  | 0, j, s2, s3, f2, f3, _ => ⟨s2, s3, by simp⟩
  | k + 1, j, s2, s3, f2, f3, h => by
    obtain ⟨s2', s3', ih⟩ := loop_wei k (j + 1) (.sh (.int (j : Int))) (.sh (optD (ef L j))) rfl rfl (by omega)
    refine ⟨s2', s3', ?_⟩
    have q := s_raw_end V (v := j) (by omega)
    have e1 : kL1 L_raw_weights_1 (bName 2 (.int (j : Int)) [.sh (TP L), .ow false (.list (rowD L.length (cnt L j))), s2, s3]) = some (.nx, [.sh (TP L), .ow false (.list (rowD L.length (cnt L (j + 1)))), .sh (.int (j : Int)), .sh (optD (ef L j))]) := by
      unfold L_raw_weights_1
      have hq : endF L (L.length + 1) j = ef L j := rfl
      rw [hq] at q
      cases he : ef L j with
      | none =>
        have hc : cnt L (j + 1) = cnt L j := by
          funext e
          rw [cnt_succ V, he]
          simp
        rw [he] at q
        rw [hc]
        simp only [optD] at q ⊢
        simp [f2, f3, q, dIsN, isN]
      | some e =>
        have hlt : e < L.length := end_lt V (by omega) he
        have hc : cnt L (j + 1) = upf (cnt L j) e 1 := by
          funext k
          rw [cnt_succ V, he]
          unfold upf
          by_cases hk : k = e
          · subst hk; simp
          · rw [if_neg hk, if_neg (by simpa using fun z => hk z.symm)]; omega
        rw [he] at q
        have a1 := row_at (cnt L j) hlt
        have a2 := row_set (cnt L j) 1 hlt
        rw [hc]
        simp only [optD] at q ⊢
        generalize rowD L.length (upf (cnt L j) e 1) = R1 at *
        generalize rowD L.length (cnt L j) = R0 at *
        rw [Int.natCast_add, Int.natCast_one] at a2
        simp [f2, f3, q, dIsN, isN, a1, a2]
    rw [List.range'_succ, List.map_cons, e_forL1, e1, show j + (k + 1) = j + 1 + k from by omega]
    exact ih
end
end K50
set_option Elab.async false
set_option linter.all false
set_option maxRecDepth 100000
set_option maxHeartbeats 4000000
namespace K50
open PySem L2 Iv PyProof.Rows
theorem row0 (n : Nat) (f : Nat → Nat) (h : ∀ k, f k = 0) : rowD n f = List.replicate n (.int 0) := by
  apply List.ext_getElem
  · simp
  · intro k h1 h2
    simp [rowD, h]
theorem range'_0 (n : Nat) : (List.range' 0 n) = List.range n := List.range_eq_range'.symm
theorem zipD_map {α : Type} (f g : α → Dt) : ∀ l : List α, zipD (l.map f) (l.map g) = l.map fun x => .tuple [f x, g x]
  | [] => rfl
  | x :: l => by rw [List.map_cons, List.map_cons, zipD, zipD_map f g l]; rfl
def pa (L : List Ps) (i : Nat) : Ps := L.getD i .none
theorem map_range (L : List Ps) : L.map pe = (List.range L.length).map fun i => pe (pa L i) := by
  apply List.ext_getElem
  · simp
  · intro k h1 h2
    have h1' : k < L.length := by simpa using h1
    simp [pa, List.getD, List.getElem?_eq_getElem h1']
theorem pa_lt {L : List Ps} {i : Nat} (h : i < L.length) : pa L i = L[i] := by simp [pa, List.getD, List.getElem?_eq_getElem h]
/-- what the first j voters give to c -/
def oc (L : List Ps) (w : Nat → Nat) (j c : Nat) : Nat := (((List.range j).filter fun v => decide (pa L v = .own c)).map w).sum
theorem oc_succ (L : List Ps) (w : Nat → Nat) (j c : Nat) : oc L w (j + 1) c = oc L w j c + if pa L j = .own c then w j else 0 := by
  unfold oc
  rw [List.range_succ, List.filter_append, List.map_append, List.sum_append]
  by_cases h : pa L j = .own c <;> simp [h]
section
variable {L : List Ps} (V : Val L)
include V
theorem s_raw_wei : c_raw_weights [.sh (TP L)] = some ((.list (rowD L.length (cnt L L.length)), true), [.un]) := by
  have e0 : c_raw_weights [.sh (TP L)] = kFn [.sh (TP L)] (b_raw_weights [.sh (TP L), .un, .un, .un]) := e_gFn _ _ _ _ rfl (by decide) rfl
  have hhi := V.hi
  obtain ⟨s2', s3', ih⟩ := loop_wei V L.length 0 .un .un rfl rfl (by omega)
  rw [range'_0, Nat.zero_add] at ih
  have z : rowD L.length (cnt L 0) = List.replicate L.length (.int 0) := row0 _ _ fun k => rfl
  rw [z] at ih
  have m0 := v_mulL1 (.int 0) (L.length : Int) (by omega) (by omega)
  rw [Int.toNat_natCast] at m0
  have okr : okR (L.length : Int) = true := by unfold okR; exact decide_eq_true (by omega)
  have rn := rangeD_nat L.length
  rw [e0]
  unfold b_raw_weights
  generalize List.replicate L.length (PyData.int 0) = R0 at *
  generalize rowD L.length (cnt L L.length) = R1 at *
  simp [m0, okr, rn]
  simp [ih]
theorem s_weights : c_weights [.sh (TP L)] = some ((.tuple (rowD L.length (cnt L L.length)), false), [.un]) := by
  have e0 : c_weights [.sh (TP L)] = kFn [.sh (TP L)] (b_weights [.sh (TP L)]) := e_gFn _ _ _ _ rfl (by decide) rfl
  have q := s_raw_wei V
  rw [e0]
  unfold b_weights
  generalize rowD L.length (cnt L L.length) = R1 at *
  simp [s_check V, q]
theorem loop_out (w : Nat → Nat) : ∀ (k j : Nat) (s2 s3 : Sl), fr s2 = true → fr s3 = true → j + k ≤ L.length → ∃ s2' s3',
    forL (bTup 2 (bCons (bName 2) (bCons (bName 3) bNil))) L_raw_outcome_1 ((List.range' j k).map fun (i : Nat) => PyData.tuple [pe (pa L i), .int ((w i : Nat) : Int)]) [.sh (TP L), .ow false (.list (rowD 6 (oc L w j))), s2, s3] = some (.nx, [.sh (TP L), .ow false (.list (rowD 6 (oc L w (j + k)))), s2', s3'])
  | 0, j, s2, s3, f2, f3, _ => ⟨s2, s3, by simp⟩
  | k + 1, j, s2, s3, f2, f3, h => by
    obtain ⟨s2', s3', ih⟩ := loop_out w k (j + 1) (.sh (pe (pa L j))) (.sh (.int ((w j : Nat) : Int))) rfl rfl (by omega)
    refine ⟨s2', s3', ?_⟩
    have e1 : kL1 L_raw_outcome_1 (bTup 2 (bCons (bName 2) (bCons (bName 3) bNil)) (.tuple [pe (pa L j), .int ((w j : Nat) : Int)]) [.sh (TP L), .ow false (.list (rowD 6 (oc L w j))), s2, s3]) = some (.nx, [.sh (TP L), .ow false (.list (rowD 6 (oc L w (j + 1)))), .sh (pe (pa L j)), .sh (.int ((w j : Nat) : Int))]) := by
      unfold L_raw_outcome_1
      cases hp : pa L j with
      | own c =>
        have hc5 : c ≤ 5 := V.own c (by rw [← hp, pa_lt (by omega)]; exact List.getElem_mem _)
        have hc : oc L w (j + 1) = upf (oc L w j) c (w j) := by
          funext k
          rw [oc_succ, hp]
          unfold upf
          by_cases hk : k = c
          · subst hk; simp
          · rw [if_neg hk, if_neg (by simpa using fun z => hk z.symm)]; omega
        have a1 := row_at (n := 6) (oc L w j) (show c < 6 by omega)
        have a2 := row_set (n := 6) (oc L w j) (w j) (show c < 6 by omega)
        rw [hc]
        generalize rowD 6 (upf (oc L w j) c (w j)) = R1 at *
        generalize rowD 6 (oc L w j) = R0 at *
        rw [Int.natCast_add] at a2
        simp [f2, f3, pe, a1, a2]
      | to v =>
        have hc : oc L w (j + 1) = oc L w j := by
          funext k
          rw [oc_succ, hp]
          simp
        rw [hc]
        simp [f2, f3, pe]
      | none =>
        have hc : oc L w (j + 1) = oc L w j := by
          funext k
          rw [oc_succ, hp]
          simp
        rw [hc]
        simp [f2, f3, pe]
    rw [List.range'_succ, List.map_cons, e_forL1, e1, show j + (k + 1) = j + 1 + k from by omega]
    exact ih
theorem s_outcome : c_outcome [.sh (TP L)] = some ((.tuple (rowD 6 (oc L (cnt L L.length) L.length)), false), [.un]) := by
  have e0 : c_outcome [.sh (TP L)] = kFn [.sh (TP L)] (b_outcome [.sh (TP L)]) := e_gFn _ _ _ _ rfl (by decide) rfl
  have q : c_raw_outcome [.sh (TP L)] = some ((.list (rowD 6 (oc L (cnt L L.length) L.length)), true), [.un]) := by
    have e1 : c_raw_outcome [.sh (TP L)] = kFn [.sh (TP L)] (b_raw_outcome [.sh (TP L), .un, .un, .un]) := e_gFn _ _ _ _ rfl (by decide) rfl
    obtain ⟨s2', s3', ih⟩ := loop_out V (cnt L L.length) L.length 0 .un .un rfl rfl (by omega)
    rw [range'_0, Nat.zero_add] at ih
    have z : rowD 6 (oc L (cnt L L.length) 0) = List.replicate 6 (.int 0) := row0 _ _ fun k => rfl
    rw [z] at ih
    have m0 := v_mulL1 (.int 0) 6 (by decide) (by decide)
    have t6 : Int.toNat 6 = 6 := rfl
    rw [t6] at m0
    have zz : zipD (L.map pe) (rowD L.length (cnt L L.length)) = (List.range L.length).map fun (i : Nat) => PyData.tuple [pe (pa L i), .int ((cnt L L.length i : Nat) : Int)] := by
      rw [map_range]
      exact zipD_map _ _ _
    have rw1 := s_raw_wei V
    rw [e1]
    unfold b_raw_outcome
    generalize List.replicate 6 (PyData.int 0) = R0 at *
    generalize rowD 6 (oc L (cnt L L.length) L.length) = R1 at *
    generalize rowD L.length (cnt L L.length) = R2 at *
    simp [m0, rw1, zz]
    simp [ih]
  rw [e0]
  unfold b_outcome
  generalize rowD 6 (oc L (cnt L L.length) L.length) = R1 at *
  simp [s_check V, q]
end
end K50
set_option Elab.async false
set_option linter.all false
set_option maxRecDepth 100000
set_option maxHeartbeats 4000000
namespace K50
open PySem L2 Iv PyProof.Rows
theorem nd_len : ∀ (n : Nat) (l : List Nat), l.Nodup → (∀ x ∈ l, x < n) → l.length ≤ n
  | 0, l, _, h => by
    cases l with
    | nil => simp
    | cons a l => exact absurd (h a (List.mem_cons_self ..)) (by omega)
  | n + 1, l, hd, h => by
    by_cases hm : n ∈ l
    · have h1 := nd_len n (l.erase n) (hd.erase n) (fun x hx => by
        have h2 := (hd.mem_erase_iff).mp hx
        have := h x h2.2
        have := h2.1
        omega)
      rw [List.length_erase_of_mem hm] at h1
      omega
    · have := nd_len n l hd (fun x hx => by
        have := h x hx
        have : x ≠ n := fun z => hm (z ▸ hx)
        omega)
      omega
abbrev rowN (r : List Nat) : List Dt := r.map fun (k : Nat) => PyData.int (k : Int)
theorem rowN_int (r : List Nat) : rowN r = (r.map Int.ofNat).map .int := by simp [rowN]
theorem nin_row (x : Nat) (r : List Nat) : dNin (.int (x : Int)) (.list (rowN r)) = some (.v (.bool (!r.contains x))) := by
  rw [rowN_int, v_ninL]
  congr 4
  induction r with
  | nil => rfl
  | cons a r ih =>
    rw [List.map_cons, List.any_cons, ih, List.contains_cons]
    congr 1
    by_cases h : a = x
    · subst h; simp
    · have h2 : ¬ (a : Int) = x := by omega
      have h3 : ¬ x = a := fun z => h z.symm
      have e1 : (Int.ofNat a == (x : Int)) = false := beq_eq_false_iff_ne.mpr h2
      have e2 : (x == a) = false := beq_eq_false_iff_ne.mpr h3
      rw [e1, e2]
theorem min_row (r : List Nat) (h : r ≠ []) : ∃ μ : Int, fMin [.list (rowN r)] = some (.v (.int μ)) := by
  obtain ⟨a, r, rfl⟩ := List.exists_cons_of_ne_nil h
  rw [rowN_int, List.map_cons]
  exact ⟨_, v_minL _ _⟩
section
variable (L : List Ps) (i : Nat)
def nx (v : Nat) : Nat := match pa L v with
  | .to w => w
  | _ => v
def isT (v : Nat) : Bool := match pa L v with
  | .to _ => true
  | _ => false
/-- the way from i -/
def orb : Nat → Nat
  | 0 => i
  | k + 1 => nx L (orb k)
def rw_ (k : Nat) : List Nat := (List.range k).map (orb L i)
theorem rw_succ (k : Nat) : rw_ L i (k + 1) = rw_ L i k ++ [orb L i k] := by
  unfold rw_
  rw [List.range_succ, List.map_append]
  rfl
theorem rw_len (k : Nat) : (rw_ L i k).length = k := by unfold rw_; simp
def pA (k : Nat) : Bool := isT L (orb L i k) && !(rw_ L i k).contains (orb L i k)
def pB (k : Nat) : Bool := isT L (orb L i k) && !(rw_ L i (k + 1)).contains (orb L i (k + 1))
theorem isT_pe {v : Nat} (h : isT L v = true) : pa L v = .to (nx L v) := by
  unfold isT at h
  unfold nx
  cases hp : pa L v with
  | to w => rfl
  | own c => rw [hp] at h; cases h
  | none => rw [hp] at h; cases h
variable {L i} (V : Val L) (hi : i < L.length)
include V hi
theorem orb_lt : ∀ k, orb L i k < L.length
  | 0 => hi
  | k + 1 => by
    have ih := orb_lt k
    show nx L (orb L i k) < _
    unfold nx
    cases hp : pa L (orb L i k) with
    | to w =>
      rw [pa_lt ih] at hp
      exact V.to w (hp ▸ List.getElem_mem ih)
    | own c => exact ih
    | none => exact ih
theorem pA_stops : ∃ m, m ≤ L.length ∧ pA L i m = false ∧ ∀ j, j < m → pA L i j = true := by
  by_cases h : ∃ k, k ≤ L.length ∧ pA L i k = false
  · obtain ⟨k, h1, h2⟩ := h
    obtain ⟨m, h3, h4, h5⟩ := first_false (pA L i) k h2
    exact ⟨m, by omega, h4, h5⟩
  · have hall : ∀ k, k ≤ L.length → pA L i k = true := fun k hk => by
      cases hp : pA L i k with
      | true => rfl
      | false => exact absurd ⟨k, hk, hp⟩ h
    have nd : ∀ k, k ≤ L.length + 1 → (rw_ L i k).Nodup := by
      intro k
      induction k with
      | zero => intro _; exact List.nodup_nil
      | succ k ih =>
        intro hk
        rw [rw_succ, List.nodup_append]
        refine ⟨ih (by omega), by simp, ?_⟩
        intro a ha b hb e
        rw [List.mem_singleton.mp hb] at e
        have := hall k (by omega)
        unfold pA at this
        rw [Bool.and_eq_true] at this
        rw [e] at ha
        have h2 := List.contains_iff_mem.mpr ha
        rw [h2] at this
        cases this.2
    have := nd_len L.length (rw_ L i (L.length + 1)) (nd _ (Nat.le_refl _)) (fun x hx => by
      unfold rw_ at hx
      obtain ⟨k, _, rfl⟩ := List.mem_map.mp hx
      exact orb_lt V hi k)
    rw [rw_len] at this
    omega
theorem at_orb (k : Nat) : atI (L.map pe) (orb L i k : Nat) = some (pe (pa L (orb L i k))) := by
  have h := orb_lt V hi k
  rw [at_L h, pa_lt h]
theorem pe_isT (p : Ps) (v : Nat) (h : pa L v = p) : ∃ x r, pe p = .tuple (.str x :: r) ∧ decide (x = sT) = isT L v := by
  unfold isT
  rw [h]
  cases p with
  | own c => exact ⟨_, _, rfl, by simp⟩
  | to w => exact ⟨_, _, rfl, by simp⟩
  | none => exact ⟨_, _, rfl, by simp⟩
/-- the program's loop -/
theorem loopA (s0 s1 : Sl) (h0 : s0 = .sh (TP L)) (hs1 : True) : ∃ m, m ≤ L.length ∧ pA L i m = false ∧ (∀ j, j < m → pA L i j = true) ∧
    mWhile T_pass_rounds_1 L_pass_rounds_1 [s0, s1, .sh (.int (i : Int)), .ow false (.list []), .sh (.int (i : Int))] = some (.nx, [s0, s1, .sh (.int (i : Int)), .ow false (.list (rowN (rw_ L i m))), .sh (.int (orb L i m : Nat))]) := by
  subst h0
  obtain ⟨m, h1, h2, h3⟩ := pA_stops V hi
  have hhi := V.hi
  refine ⟨m, h1, h2, h3, ?_⟩
  refine while_to (fun k => [.sh (TP L), s1, .sh (.int (i : Int)), .ow false (.list (rowN (rw_ L i k))), .sh (.int (orb L i k : Nat))]) (pA L i) m (fun k hk => ?_) (fun k hk => ?_) h3 h2 1000000000 0 (by omega) (by omega)
  · have a1 := at_orb V hi k
    obtain ⟨x, r, hx, hd⟩ := pe_isT V hi (pa L (orb L i k)) (orb L i k) rfl
    rw [hx] at a1
    have nn := nin_row (orb L i k) (rw_ L i k)
    unfold T_pass_rounds_1 pA
    generalize rowN (rw_ L i k) = R at *
    rw [← hd]
    generalize (rw_ L i k).contains (orb L i k) = C at *
    by_cases hxs : x = sT
    · subst hxs
      simp [a1, nn]
    · simp [a1, nn, hxs]
  · have hp := h3 k hk
    unfold pA at hp
    rw [Bool.and_eq_true] at hp
    have a1 := at_orb V hi k
    rw [isT_pe L hp.1, pe_to] at a1
    have hz : (rowN (rw_ L i k)).length ≤ 1000 := by simp [rowN, rw_len]; omega
    have hr : rowN (rw_ L i (k + 1)) = rowN (rw_ L i k) ++ [.int (orb L i k : Nat)] := by
      rw [rw_succ]
      simp [rowN]
    have ho : orb L i (k + 1) = nx L (orb L i k) := rfl
    unfold L_pass_rounds_1
    show _ = some (Out.nx, [.sh (TP L), s1, .sh (.int (i : Int)), .ow false (.list (rowN (rw_ L i (k + 1)))), .sh (.int (orb L i (k + 1) : Nat))])
    rw [hr, ho]
    generalize rowN (rw_ L i k) = R at *
    simp [a1, hz]
end
end K50
set_option Elab.async false
set_option linter.all false
set_option maxRecDepth 100000
set_option maxHeartbeats 4000000
namespace K50
open PySem L2 Iv PyProof.Rows
theorem at_last (d : Dt) (r : List Dt) : atI (r ++ [d]) (-1) = some d := by
  have h : ixN (r ++ [d]).length (-1) = some r.length := by
    unfold ixN
    rw [if_neg (by decide), if_pos (by simp; omega)]
    simp
    omega
  unfold atI
  rw [h]
  simp
section
variable {L : List Ps} {i : Nat} (V : Val L) (hi : i < L.length)
include V hi
/-- what is told of the way from i: its row, if it comes back to i, the least of it -/
def rnd (L : List Ps) (i m : Nat) (μ : Int) : Bool := decide (1 ≤ m) && (decide (orb L i m = i) && decide ((i : Int) = μ))
theorem loopB {s1 : Sl} {m : Nat} (hm : m ≤ L.length) (h2 : pA L i m = false) (h3 : ∀ j, j < m → pA L i j = true) : ∃ k, k ≤ L.length ∧
    mWhile T__law_rounds_1 L__law_rounds_1 [.sh (TP L), s1, .sh (.int (i : Int)), .ow false (.list (rowN (rw_ L i 1)))] = some (.nx, [.sh (TP L), s1, .sh (.int (i : Int)), .ow false (.list (rowN (rw_ L i (k + 1))))]) ∧
    ((k + 1 = m ∧ isT L (orb L i k) = true) ∨ (k = m ∧ isT L (orb L i k) = false ∧ (m = 0 ∨ orb L i m ≠ i))) := by
  have hhi := V.hi
  have step : ∀ j, j + 1 < m → pB L i j = true := fun j hj => by
    have a := h3 j (by omega)
    have b := h3 (j + 1) hj
    unfold pA at a b
    unfold pB
    rw [Bool.and_eq_true] at a b ⊢
    exact ⟨a.1, b.2⟩
  have key : ∃ k, k ≤ L.length ∧ pB L i k = false ∧ (∀ j, j < k → pB L i j = true) ∧ ((k + 1 = m ∧ isT L (orb L i k) = true) ∨ (k = m ∧ isT L (orb L i k) = false ∧ (m = 0 ∨ orb L i m ≠ i))) := by
    cases m with
    | zero =>
      have ht : isT L (orb L i 0) = false := by
        unfold pA at h2
        have : (rw_ L i 0).contains (orb L i 0) = false := rfl
        rw [this] at h2
        simpa using h2
      exact ⟨0, Nat.zero_le _, by unfold pB; rw [ht]; rfl, fun j hj => by omega, .inr ⟨rfl, ht, .inl rfl⟩⟩
    | succ m =>
      have a := h3 m (by omega)
      have aT : isT L (orb L i m) = true := by
        unfold pA at a
        rw [Bool.and_eq_true] at a
        exact a.1
      by_cases hc : (rw_ L i (m + 1)).contains (orb L i (m + 1)) = true
      · exact ⟨m, by omega, by unfold pB; rw [hc]; simp, fun j hj => step j (by omega), .inl ⟨rfl, aT⟩⟩
      · have hc : (rw_ L i (m + 1)).contains (orb L i (m + 1)) = false := by simpa using hc
        have ht : isT L (orb L i (m + 1)) = false := by
          unfold pA at h2
          rw [hc] at h2
          simpa using h2
        refine ⟨m + 1, hm, by unfold pB; rw [ht]; rfl, fun j hj => ?_, .inr ⟨rfl, ht, .inr fun e => ?_⟩⟩
        · by_cases hj2 : j = m
          · subst hj2
            unfold pB
            rw [aT, hc]
            rfl
          · exact step j (by omega)
        · have : i ∈ rw_ L i (m + 1) := List.mem_map.mpr ⟨0, by simp, rfl⟩
          rw [e, List.contains_iff_mem.mpr this] at hc
          cases hc
  obtain ⟨k, hk, k1, k2, k3⟩ := key
  refine ⟨k, hk, ?_, k3⟩
  refine while_to (fun k => [.sh (TP L), s1, .sh (.int (i : Int)), .ow false (.list (rowN (rw_ L i (k + 1))))]) (pB L i) k (fun j hj => ?_) (fun j hj => ?_) k2 k1 1000000000 0 (by omega) (by omega)
  · have a1 := at_orb V hi j
    have hr : rowN (rw_ L i (j + 1)) = rowN (rw_ L i j) ++ [.int (orb L i j : Nat)] := by
      rw [rw_succ]
      simp [rowN]
    have al := at_last (.int (orb L i j : Nat)) (rowN (rw_ L i j))
    rw [← hr] at al
    unfold T__law_rounds_1 pB
    by_cases ht : isT L (orb L i j) = true
    · rw [isT_pe L ht, pe_to] at a1
      have ho : nx L (orb L i j) = orb L i (j + 1) := rfl
      rw [ho] at a1
      have nn := nin_row (orb L i (j + 1)) (rw_ L i (j + 1))
      rw [ht]
      generalize rowN (rw_ L i (j + 1)) = R at *
      generalize (rw_ L i (j + 1)).contains (orb L i (j + 1)) = C at *
      simp [a1, nn, al]
    · have ht : isT L (orb L i j) = false := by simpa using ht
      obtain ⟨x, r, hx, hd⟩ := pe_isT V hi (pa L (orb L i j)) (orb L i j) rfl
      rw [hx] at a1
      rw [ht] at hd
      have hxs : (x = sT) = False := by simpa using hd
      rw [ht]
      generalize rowN (rw_ L i (j + 1)) = R at *
      simp [a1, al, hxs]
  · have hp := k2 j hj
    unfold pB at hp
    rw [Bool.and_eq_true] at hp
    have a1 := at_orb V hi j
    rw [isT_pe L hp.1, pe_to] at a1
    have ho : nx L (orb L i j) = orb L i (j + 1) := rfl
    rw [ho] at a1
    have hr : rowN (rw_ L i (j + 1)) = rowN (rw_ L i j) ++ [.int (orb L i j : Nat)] := by
      rw [rw_succ]
      simp [rowN]
    have hr2 : rowN (rw_ L i (j + 1 + 1)) = rowN (rw_ L i (j + 1)) ++ [.int (orb L i (j + 1) : Nat)] := by
      rw [rw_succ]
      simp [rowN]
    have al := at_last (.int (orb L i j : Nat)) (rowN (rw_ L i j))
    rw [← hr] at al
    have hz : (rowN (rw_ L i (j + 1))).length ≤ 1000 := by simp [rowN, rw_len]; omega
    unfold L__law_rounds_1
    show _ = some (Out.nx, [.sh (TP L), s1, .sh (.int (i : Int)), .ow false (.list (rowN (rw_ L i (j + 1 + 1))))])
    rw [hr2]
    generalize rowN (rw_ L i (j + 1)) = R at *
    simp [a1, al, hz]
end
end K50
set_option Elab.async false
set_option linter.all false
set_option maxRecDepth 100000
set_option maxHeartbeats 4000000
namespace K50
open PySem L2 Iv PyProof.Rows
section
variable {L : List Ps} (V : Val L)
include V
/-- both loops' turns tell the same -/
theorem both {i : Nat} (hi : i < L.length) (acc : List Dt) (ha : acc.length + 1 ≤ 100) : ∃ acc' : List Dt, (acc'.length ≤ acc.length + 1 ∧ ∀ d ∈ acc', d ∈ acc ∨ ∃ r : List Nat, d = .tuple (rowN r) ∧ r.length ≤ 9 ∧ ∀ x ∈ r, x < 9) ∧
    (∀ s2 s3 s4 : Sl, fr s2 = true → fr s3 = true → fr s4 = true → ∃ s2' s3' s4', fr s2' = true ∧ fr s3' = true ∧ fr s4' = true ∧ kL1 L_pass_rounds_2 (bName 2 (.int (i : Int)) [.sh (TP L), .ow false (.list acc), s2, s3, s4]) = some (.nx, [.sh (TP L), .ow false (.list acc'), s2', s3', s4'])) ∧
    (∀ s2 s3 : Sl, fr s2 = true → fr s3 = true → ∃ s2' s3', fr s2' = true ∧ fr s3' = true ∧ kL1 L__law_rounds_2 (bName 2 (.int (i : Int)) [.sh (TP L), .ow false (.list acc), s2, s3]) = some (.nx, [.sh (TP L), .ow false (.list acc'), s2', s3'])) := by
  obtain ⟨m, h1, h2, h3, eA⟩ := loopA V hi (.sh (TP L)) (.ow false (.list acc)) rfl trivial
  obtain ⟨k, hk, eB, hc⟩ := loopB V hi (s1 := .ow false (.list acc)) h1 h2 h3
  have hz : acc.length ≤ 1000 := by omega
  have hlk : rw_ L i (k + 1) ≠ [] := fun z => by
    have := rw_len L i (k + 1)
    rw [z] at this
    cases this
  obtain ⟨ν, hν⟩ := min_row _ hlk
  have r1 : rw_ L i 1 = [i] := rfl
  have r1' : rowN (rw_ L i 1) = [.int (i : Int)] := rfl
  rw [r1'] at eB
  have a1 := at_orb V hi k
  have hr : rowN (rw_ L i (k + 1)) = rowN (rw_ L i k) ++ [.int (orb L i k : Nat)] := by
    rw [rw_succ]
    simp [rowN]
  have al := at_last (.int (orb L i k : Nat)) (rowN (rw_ L i k))
  rw [← hr] at al
  rcases hc with ⟨hm, hT⟩ | ⟨hm, hT, hn⟩
  · subst hm
    have ho : nx L (orb L i k) = orb L i (k + 1) := rfl
    have pk := isT_pe L hT
    rw [ho] at pk
    have eq1 := eq_to (pa L (orb L i k)) i
    rw [pk] at eq1 a1
    have hL : fLen [.list (rowN (rw_ L i (k + 1)))] = some (.v (.int ((k + 1 : Nat) : Int))) := by
      show some (Rs.v (.int ((rowN (rw_ L i (k + 1))).length : Int))) = _
      simp [rowN, rw_len]
    by_cases hb : orb L i (k + 1) = i ∧ (i : Int) = ν
    · obtain ⟨hb1, hb2⟩ := hb
      refine ⟨acc ++ [.tuple (rowN (rw_ L i (k + 1)))], ⟨by simp, fun d hd => ?_⟩, fun s2 s3 s4 f2 f3 f4 => ?_, fun s2 s3 f2 f3 => ?_⟩
      · rcases List.mem_append.mp hd with hd | hd
        · exact .inl hd
        · refine .inr ⟨_, List.mem_singleton.mp hd, by rw [rw_len]; have := V.hi; omega, fun x hx => ?_⟩
          unfold rw_ at hx
          obtain ⟨y, _, rfl⟩ := List.mem_map.mp hx
          have := orb_lt V hi y
          have := V.hi
          omega
      · refine ⟨.sh (.int (i : Int)), .ow false (.list (rowN (rw_ L i (k + 1)))), .sh (.int (orb L i (k + 1) : Nat)), rfl, rfl, rfl, ?_⟩
        unfold L_pass_rounds_2
        have hb3 : ((orb L i (k + 1) : Nat) : Int) = i := by omega
        generalize rowN (rw_ L i (k + 1)) = R at *
        rw [hb3] at eA ⊢
        subst hb2
        simp [f2, f3, f4, eA, hν, hz, hL, -v_len1]
        try omega
      · refine ⟨.sh (.int (i : Int)), .ow false (.list (rowN (rw_ L i (k + 1)))), rfl, rfl, ?_⟩
        unfold L__law_rounds_2
        have eq2 : decide (Ps.to (orb L i (k + 1)) = Ps.to i) = true := by rw [hb1]; simp
        rw [eq2] at eq1
        generalize rowN (rw_ L i (k + 1)) = R at *
        subst hb2
        generalize pe (Ps.to (orb L i (k + 1))) = PP at *
        simp [f2, f3, eB, hν, hz, al, a1, eq1]
    · refine ⟨acc, ⟨by omega, fun d hd => .inl hd⟩, fun s2 s3 s4 f2 f3 f4 => ?_, fun s2 s3 f2 f3 => ?_⟩
      · refine ⟨.sh (.int (i : Int)), .ow false (.list (rowN (rw_ L i (k + 1)))), .sh (.int (orb L i (k + 1) : Nat)), rfl, rfl, rfl, ?_⟩
        unfold L_pass_rounds_2
        generalize rowN (rw_ L i (k + 1)) = R at *
        have hpos : (0 : Int) < ((k + 1 : Nat) : Int) := by omega
        by_cases hb1 : orb L i (k + 1) = i
        · have hb2 : ¬ (i : Int) = ν := fun z => hb ⟨hb1, z⟩
          have hb3 : ((orb L i (k + 1) : Nat) : Int) = i := by omega
          rw [hb3] at eA ⊢
          simp [f2, f3, f4, eA, hν, hz, hL, hb2, -v_len1]
          try omega
        · have hb3 : ¬ ((orb L i (k + 1) : Nat) : Int) = i := by omega
          generalize ((orb L i (k + 1) : Nat) : Int) = O1 at *
          simp [f2, f3, f4, eA, hν, hz, hL, hb3, -v_len1]
          try omega
      · refine ⟨.sh (.int (i : Int)), .ow false (.list (rowN (rw_ L i (k + 1)))), rfl, rfl, ?_⟩
        unfold L__law_rounds_2
        by_cases hb1 : orb L i (k + 1) = i
        · have hb2 : ¬ ν = (i : Int) := fun z => hb ⟨hb1, z.symm⟩
          have eq2 : decide (Ps.to (orb L i (k + 1)) = Ps.to i) = true := by rw [hb1]; simp
          rw [eq2] at eq1
          generalize rowN (rw_ L i (k + 1)) = R at *
          generalize pe (Ps.to (orb L i (k + 1))) = PP at *
          simp [f2, f3, eB, hν, hz, al, a1, eq1, hb2]
        · have eq2 : decide (Ps.to (orb L i (k + 1)) = Ps.to i) = false := by
            rw [decide_eq_false_iff_not]
            intro z
            exact hb1 (Ps.to.inj z)
          rw [eq2] at eq1
          generalize rowN (rw_ L i (k + 1)) = R at *
          generalize pe (Ps.to (orb L i (k + 1))) = PP at *
          simp [f2, f3, eB, hν, hz, al, a1, eq1]
  · subst hm
    have eq1 := eq_to (pa L (orb L i k)) i
    have eq2 : decide (pa L (orb L i k) = Ps.to i) = false := by
      rw [decide_eq_false_iff_not]
      intro z
      unfold isT at hT
      rw [z] at hT
      cases hT
    rw [eq2] at eq1
    have hL : fLen [.list (rowN (rw_ L i k))] = some (.v (.int ((k : Nat) : Int))) := by
      show some (Rs.v (.int ((rowN (rw_ L i k)).length : Int))) = _
      simp [rowN, rw_len]
    refine ⟨acc, ⟨by omega, fun d hd => .inl hd⟩, fun s2 s3 s4 f2 f3 f4 => ?_, fun s2 s3 f2 f3 => ?_⟩
    · refine ⟨.sh (.int (i : Int)), .ow false (.list (rowN (rw_ L i k))), .sh (.int (orb L i k : Nat)), rfl, rfl, rfl, ?_⟩
      unfold L_pass_rounds_2
      generalize rowN (rw_ L i k) = R at *
      by_cases h0 : k = 0
      · subst h0
        generalize ((orb L i 0 : Nat) : Int) = O1 at *
        simp [f2, f3, f4, eA, hz, hL, -v_len1]
      · have hb3 : ¬ ((orb L i k : Nat) : Int) = i := by
          rcases hn with z | z
          · exact absurd z h0
          · omega
        have hk0 : 0 < k := by omega
        generalize ((orb L i k : Nat) : Int) = O1 at *
        simp [f2, f3, f4, eA, hz, hL, hb3, hk0, -v_len1]
    · refine ⟨.sh (.int (i : Int)), .ow false (.list (rowN (rw_ L i (k + 1)))), rfl, rfl, ?_⟩
      unfold L__law_rounds_2
      generalize rowN (rw_ L i (k + 1)) = R at *
      generalize pe (pa L (orb L i k)) = PP at *
      simp [f2, f3, eB, hν, hz, al, a1, eq1]
end
end K50
set_option Elab.async false
set_option linter.all false
set_option maxRecDepth 100000
set_option maxHeartbeats 4000000
namespace K50
open PySem L2 Iv PyProof.Rows
section
variable {L : List Ps} (V : Val L)
include V
theorem loops : ∀ (k j : Nat) (acc : List Dt), j + k ≤ L.length → acc.length ≤ j → ∃ acc' : List Dt, (acc'.length ≤ j + k ∧ ∀ d ∈ acc', d ∈ acc ∨ ∃ r : List Nat, d = .tuple (rowN r) ∧ r.length ≤ 9 ∧ ∀ x ∈ r, x < 9) ∧
    (∀ s2 s3 s4 : Sl, fr s2 = true → fr s3 = true → fr s4 = true → ∃ s2' s3' s4', forL (bName 2) L_pass_rounds_2 ((List.range' j k).map fun (i : Nat) => PyData.int (i : Int)) [.sh (TP L), .ow false (.list acc), s2, s3, s4] = some (.nx, [.sh (TP L), .ow false (.list acc'), s2', s3', s4'])) ∧
    (∀ s2 s3 : Sl, fr s2 = true → fr s3 = true → ∃ s2' s3', forL (bName 2) L__law_rounds_2 ((List.range' j k).map fun (i : Nat) => PyData.int (i : Int)) [.sh (TP L), .ow false (.list acc), s2, s3] = some (.nx, [.sh (TP L), .ow false (.list acc'), s2', s3']))
  | 0, j, acc, h, ha => ⟨acc, ⟨by omega, fun d hd => .inl hd⟩, fun s2 s3 s4 _ _ _ => ⟨s2, s3, s4, by simp⟩, fun s2 s3 _ _ => ⟨s2, s3, by simp⟩⟩
  | k + 1, j, acc, h, ha => by
    have hhi := V.hi
    obtain ⟨acc1, ⟨h1, m1⟩, eA, eB⟩ := both V (i := j) (by omega) acc (by omega)
    obtain ⟨acc2, ⟨h2, m2⟩, fA, fB⟩ := loops k (j + 1) acc1 (by omega) (by omega)
    refine ⟨acc2, ⟨by omega, fun d hd => (m2 d hd).elim (fun z => m1 d z) .inr⟩, fun s2 s3 s4 f2 f3 f4 => ?_, fun s2 s3 f2 f3 => ?_⟩
    · obtain ⟨t2, t3, t4, g2, g3, g4, e⟩ := eA s2 s3 s4 f2 f3 f4
      obtain ⟨u2, u3, u4, e2⟩ := fA t2 t3 t4 g2 g3 g4
      refine ⟨u2, u3, u4, ?_⟩
      rw [List.range'_succ, List.map_cons, e_forL1, e]
      exact e2
    · obtain ⟨t2, t3, g2, g3, e⟩ := eB s2 s3 f2 f3
      obtain ⟨u2, u3, e2⟩ := fB t2 t3 g2 g3
      refine ⟨u2, u3, ?_⟩
      rw [List.range'_succ, List.map_cons, e_forL1, e]
      exact e2
theorem s_rounds : ∃ acc : List Dt, (acc.length ≤ 8 ∧ ∀ d ∈ acc, ∃ r : List Nat, d = .tuple (rowN r) ∧ r.length ≤ 9 ∧ ∀ x ∈ r, x < 9) ∧ c_pass_rounds [.sh (TP L)] = some ((.tuple acc, false), [.un]) ∧ c__law_rounds [.sh (TP L)] = some ((.tuple acc, false), [.un]) := by
  have hhi := V.hi
  obtain ⟨acc, ⟨h1, hm⟩, eA, eB⟩ := loops V L.length 0 [] (by omega) (by simp)
  obtain ⟨t2, t3, t4, e⟩ := eA .un .un .un rfl rfl rfl
  obtain ⟨u2, u3, e'⟩ := eB .un .un rfl rfl
  rw [range'_0] at e e'
  have okr : okR (L.length : Int) = true := by unfold okR; exact decide_eq_true (by omega)
  have rn := rangeD_nat L.length
  refine ⟨acc, ⟨by omega, fun d hd => (hm d hd).elim (fun z => nomatch z) id⟩, ?_, ?_⟩
  · have e0 : c_pass_rounds [.sh (TP L)] = kFn [.sh (TP L)] (b_pass_rounds [.sh (TP L), .un, .un, .un, .un]) := e_gFn _ _ _ _ rfl (by decide) rfl
    rw [e0]
    unfold b_pass_rounds
    simp [s_check V, okr, rn]
    simp [e]
  · have e0 : c__law_rounds [.sh (TP L)] = kFn [.sh (TP L)] (b__law_rounds [.sh (TP L), .un, .un, .un]) := e_gFn _ _ _ _ rfl (by decide) rfl
    rw [e0]
    unfold b__law_rounds
    simp [okr, rn]
    simp [e']
/-! ### the law's counts -/
theorem sh_opt (l : List (Option Nat)) : SeqAt.shaped (.list (l.map optD)) = true := (shaped_map (k := 0) (f := optD) (fun x => by cases x <;> simp [optD, PyData.canLay0]) (fun x => by cases x <;> simp [optD, PyData.depth]) (by decide) l).1
omit V in
theorem cnt_opt (l : List (Option Nat)) (x : Option Nat) : fCntL (.list (l.map optD)) [optD x] = some (.v (.int ((l.countP fun o => decide (o = x) : Nat) : Int))) := by
  have hs : SeqAt.shaped (optD x) = true := by cases x <;> simp [optD, SeqAt.shaped, PyData.canLay0, PyData.depth]
  show (if _ then _ else _) = _
  have hsh : SeqAt.shaped (.list (l.map optD)) = true := (shaped_map (k := 0) (f := optD) (fun x => by cases x <;> simp [optD, PyData.canLay0]) (fun x => by cases x <;> simp [optD, PyData.depth]) (by decide) l).1
  rw [if_pos ⟨hs, hsh⟩, List.countP_map]
  congr 4
  refine congrArg (fun f => List.countP f l) (funext fun o => ?_)
  simp only [Function.comp]
  cases o <;> cases x <;> simp [optD, PyData.eqv]
  rename_i a b
  by_cases h : a = b
  · subst h; simp
  · have : ¬ (a : Int) = b := by omega
    simp [h, this]
/-- where all votes end -/
def ends (L : List Ps) : List (Option Nat) := (List.range L.length).map (ef L)
omit V in
theorem cnt_ends (x : Nat) : (ends L).countP (fun o => decide (o = some x)) = cnt L L.length x := by
  unfold ends cnt
  rw [List.countP_map]
  rfl
theorem sum_cnt : ((List.range L.length).map (cnt L L.length)).sum + (ends L).countP (fun o => decide (o = none)) = L.length := by
  have key : ∀ j, j ≤ L.length → ((List.range L.length).map (cnt L j)).sum + (((List.range j).map (ef L)).countP fun o => decide (o = none)) = j := by
    intro j
    induction j with
    | zero =>
      intro _
      have : (List.range L.length).map (cnt L 0) = List.replicate L.length 0 := by
        apply List.ext_getElem
        · simp
        · intro k h1 h2; simp [cnt]
      rw [this]
      simp
    | succ j ih =>
      intro hj
      have ih := ih (by omega)
      rw [List.countP_map] at ih
      rw [List.range_succ, List.map_append, List.countP_append]
      cases he : ef L j with
      | none =>
        have : cnt L (j + 1) = cnt L j := by
          funext e
          rw [cnt_succ V, he]
          simp
        rw [this]
        simp [he]
        omega
      | some e =>
        have hlt : e < L.length := end_lt V (show j < L.length by omega) he
        have hs : ∀ n, e < n → ((List.range n).map (cnt L (j + 1))).sum = ((List.range n).map (cnt L j)).sum + 1 := by
          have hcj : ∀ k, cnt L (j + 1) k = cnt L j k + if k = e then 1 else 0 := fun k => by
            rw [cnt_succ V, he]
            by_cases hk : k = e
            · subst hk; simp
            · have hk' : ¬ e = k := fun z => hk z.symm
              simp [hk, hk']
          intro n
          induction n with
          | zero => intro h; omega
          | succ n ihn =>
            intro h
            rw [List.range_succ, List.map_append, List.map_append, List.sum_append, List.sum_append]
            by_cases hn : e < n
            · rw [ihn hn]
              have : ¬ n = e := by omega
              simp [hcj, this]
              omega
            · obtain rfl : e = n := by omega
              have : ∀ m, m ≤ e → ((List.range m).map (cnt L (j + 1))).sum = ((List.range m).map (cnt L j)).sum := by
                intro m
                induction m with
                | zero => intro _; rfl
                | succ m ihm =>
                  intro hm
                  rw [List.range_succ, List.map_append, List.map_append, List.sum_append, List.sum_append, ihm (by omega)]
                  have : ¬ m = e := by omega
                  simp [hcj, this]
              rw [this e (Nat.le_refl _)]
              simp [hcj]
              omega
        rw [hs _ hlt]
        simp [he]
        omega
  exact key L.length (Nat.le_refl _)
end
end K50
set_option Elab.async false
set_option linter.all false
set_option maxRecDepth 100000
set_option maxHeartbeats 8000000
namespace K50
open PySem L2 Iv PyProof.Rows
/-! ### passes are drawn -/
def okP (n j : Nat) : Ps → Prop
  | .own c => c ≤ 5
  | .to v => v < n ∧ v ≠ j
  | .none => True
/-- a voter who does not pass on -/
def NE : MS := (mDrop (mMethS 2 "list" fApp (mA (mCallF 2 c__law_any (some 0) (mA (mName 0) (mA (mLst (mA (mTup (mA (mK (.str (Str.ofString "own"))) (mA (mCallF 2 c__law_draw (some 0) (mA (mName 0) (mA (mK (.int 6)) mA0))) mA0))) (mA (mTup (mA (mK (.str (Str.ofString "own"))) (mA (mCallF 2 c__law_draw (some 0) (mA (mName 0) (mA (mK (.int 2)) mA0))) mA0))) (mA (mTup (mA (mK (.str (Str.ofString "none"))) mA0)) mA0)))) mA0))) mA0)))
theorem ne_turn (h : Hand) (ok : h.Ok) (acc : List Ps) (ha : acc.length ≤ 100) (n j : Nat) (s1 s3 s4 : Sl) : ∃ (p : Ps) (h' : Hand), okP n j p ∧ h'.Ok ∧ NE [.ow true h.d, s1, .ow false (.list (acc.map pe)), s3, s4] = some (.nx, [.ow true h'.d, s1, .ow false (.list ((acc ++ [p]).map pe)), s3, s4]) := by
  obtain ⟨a, h1, e1, r1, ok1⟩ := dD h ok 6 (by decide) (by decide)
  obtain ⟨b, h2, e2, r2, ok2⟩ := dD h1 ok1 2 (by decide) (by decide)
  obtain ⟨d, hd, h3, ok3, e3⟩ := s_any h2 ok2 [pe (.own a), pe (.own b), pe .none] (by simp) (by simp)
  have hp : ∃ p, d = pe p ∧ okP n j p := by
    simp only [List.mem_cons, List.not_mem_nil, or_false] at hd
    rcases hd with rfl | rfl | rfl
    · exact ⟨_, rfl, by show a ≤ 5; omega⟩
    · exact ⟨_, rfl, by show b ≤ 5; omega⟩
    · exact ⟨_, rfl, trivial⟩
  obtain ⟨p, rfl, hp⟩ := hp
  refine ⟨p, h3, hp, ok3, ?_⟩
  have hz : (acc.map pe).length ≤ 1000 := by simp; omega
  rw [List.map_append]
  simp only [List.map_cons, List.map_nil]
  have p1 : pe (.own a) = .tuple [.str sO, .int (a : Int)] := rfl
  have p2 : pe (.own b) = .tuple [.str sO, .int (b : Int)] := rfl
  have p3 : pe .none = .tuple [.str sN] := rfl
  rw [p1, p2, p3] at e3
  unfold NE
  generalize acc.map pe = A at *
  generalize pe p = d at *
  simp [e1, e2, e3, hz]
theorem p_turn (h : Hand) (ok : h.Ok) (acc : List Ps) (n w : Nat) (hn : n ≤ 8) (hw0 : 0 < w) (hw : w ≤ 6) (ha : acc.length < n) (s4 : Sl) (f4 : fr s4 = true) : ∃ (p : Ps) (h' : Hand), okP n acc.length p ∧ h'.Ok ∧
    kL1 L__law_passes_1 (bName 4 (.int (acc.length : Int)) [.ow true h.d, .sh (.int (n : Int)), .ow false (.list (acc.map pe)), .sh (.int (w : Int)), s4]) = some (.nx, [.ow true h'.d, .sh (.int (n : Int)), .ow false (.list ((acc ++ [p]).map pe)), .sh (.int (w : Int)), .sh (.int (acc.length : Int))]) := by
  have hz : (acc.map pe).length ≤ 1000 := by simp; omega
  by_cases h1 : 1 < n
  · obtain ⟨x, g1, e1, r1, ok1⟩ := dD h ok (w : Int) (by omega) (by omega)
    by_cases hx : 0 < x
    · obtain ⟨y, g2, e2, r2, ok2⟩ := dD g1 ok1 ((n : Int) - 1) (by omega) (by omega)
      have hm := v_modN (i := acc.length + 1 + y) (j := n) (by omega)
      refine ⟨.to ((acc.length + 1 + y) % n), g2, ⟨Nat.mod_lt _ (by omega), fun e => ?_⟩, ok2, ?_⟩
      · by_cases hc : acc.length + 1 + y < n
        · rw [Nat.mod_eq_of_lt hc] at e
          omega
        · rw [Nat.mod_eq_sub_mod (by omega), Nat.mod_eq_of_lt (by omega)] at e
          omega
      · rw [List.map_append]
        simp only [List.map_cons, List.map_nil, pe_to]
        simp only [Int.natCast_add, Int.natCast_one] at hm
        have hx1 : (0 : Int) < x := by omega
        have h1' : (1 : Int) < n := by omega
        generalize (((acc.length + 1 + y) % n : Nat) : Int) = M at *
        generalize acc.map pe = A at *
        unfold L__law_passes_1
        simp [f4, h1, h1', e1, hx, hx1, e2, hm, hz, -Iv.v_mod]
    · obtain ⟨p, g2, hp, ok2, e⟩ := ne_turn g1 ok1 acc (by omega) n acc.length (.sh (.int (n : Int))) (.sh (.int (w : Int))) (.sh (.int (acc.length : Int)))
      refine ⟨p, g2, hp, ok2, ?_⟩
      have h1' : (1 : Int) < n := by omega
      have hx1 : ¬ (0 : Int) < x := by omega
      generalize (acc ++ [p]).map pe = A2 at *
      generalize acc.map pe = A at *
      show kL1 (mIf _ _ NE) _ = _
      simp [f4, h1, h1', e1, hx, hx1, e]
  · obtain ⟨p, g2, hp, ok2, e⟩ := ne_turn h ok acc (by omega) n acc.length (.sh (.int (n : Int))) (.sh (.int (w : Int))) (.sh (.int (acc.length : Int)))
    refine ⟨p, g2, hp, ok2, ?_⟩
    have h1' : ¬ (1 : Int) < n := by omega
    generalize (acc ++ [p]).map pe = A2 at *
    generalize acc.map pe = A at *
    show kL1 (mIf _ _ NE) _ = _
    simp [f4, h1, h1', e]
theorem p_loop (n w : Nat) (hn : n ≤ 8) (hw0 : 0 < w) (hw : w ≤ 6) : ∀ (k : Nat) (acc : List Ps) (h : Hand) (s4 : Sl), h.Ok → fr s4 = true → acc.length + k = n → (∀ (j : Nat) (hj : j < acc.length), okP n j acc[j]) → ∃ (L : List Ps) (h' : Hand) (s4' : Sl), h'.Ok ∧ L.length = n ∧ (∀ (j : Nat) (hj : j < L.length), okP n j L[j]) ∧
    forL (bName 4) L__law_passes_1 ((List.range' acc.length k).map fun (i : Nat) => PyData.int (i : Int)) [.ow true h.d, .sh (.int (n : Int)), .ow false (.list (acc.map pe)), .sh (.int (w : Int)), s4] = some (.nx, [.ow true h'.d, .sh (.int (n : Int)), .ow false (.list (L.map pe)), .sh (.int (w : Int)), s4'])
  | 0, acc, h, s4, ok, f4, hl, ha => ⟨acc, h, s4, ok, by omega, ha, by simp⟩
  | k + 1, acc, h, s4, ok, f4, hl, ha => by
    obtain ⟨p, g, hp, ok1, e1⟩ := p_turn h ok acc n w hn hw0 hw (by omega) s4 f4
    obtain ⟨L, g2, s4', ok2, h1, h2, e2⟩ := p_loop n w hn hw0 hw k (acc ++ [p]) g (.sh (.int (acc.length : Int))) ok1 rfl (by simp; omega) (fun j hj => by
      by_cases hc : j < acc.length
      · rw [List.getElem_append_left hc]; exact ha j hc
      · have : j = acc.length := by simp at hj; omega
        subst this
        simpa using hp)
    refine ⟨L, g2, s4', ok2, h1, h2, ?_⟩
    rw [List.range'_succ, List.map_cons, e_forL1, e1]
    rw [List.length_append, List.length_singleton] at e2
    exact e2
theorem val_of {L : List Ps} (h1 : 1 ≤ L.length) (h8 : L.length ≤ 8) (h : ∀ (j : Nat) (hj : j < L.length), okP L.length j L[j]) : Val L := by
  refine ⟨h1, h8, fun c hc => ?_, fun v hv => ?_, fun i hi e => ?_⟩
  · obtain ⟨j, hj, e⟩ := List.getElem_of_mem hc
    have := h j hj
    rw [e] at this
    exact this
  · obtain ⟨j, hj, e⟩ := List.getElem_of_mem hv
    have := h j hj
    rw [e] at this
    exact this.1
  · have := h i hi
    rw [e] at this
    exact this.2 rfl
theorem s_passes (h : Hand) (ok : h.Ok) : ∃ (L : List Ps) (h' : Hand), Val L ∧ h'.Ok ∧ c__law_passes [.ow true h.d] = some ((TP L, false), [.ow true h'.d]) := by
  have e0 : c__law_passes [.ow true h.d] = kFn [.ow true h.d] (b__law_passes [.ow true h.d, .un, .un, .un, .un]) := e_gFn _ _ _ _ rfl (by decide) rfl
  obtain ⟨x, g1, e1, r1, ok1⟩ := dD h ok 8 (by decide) (by decide)
  obtain ⟨d, hd, g2, ok2, e2⟩ := s_any g1 ok1 [.int 2, .int 3, .int 6] (by simp) (by simp)
  have hw : ∃ w : Nat, d = .int (w : Int) ∧ 0 < w ∧ w ≤ 6 := by
    simp only [List.mem_cons, List.not_mem_nil, or_false] at hd
    rcases hd with rfl | rfl | rfl
    · exact ⟨2, rfl, by decide, by decide⟩
    · exact ⟨3, rfl, by decide, by decide⟩
    · exact ⟨6, rfl, by decide, by decide⟩
  obtain ⟨w, rfl, w0, w6⟩ := hw
  obtain ⟨L, g3, s4', ok3, h1, h2, e3⟩ := p_loop (1 + x) w (by omega) w0 w6 (1 + x) [] g2 .un ok2 rfl (by simp) (fun j hj => by simp at hj)
  refine ⟨L, g3, val_of (by omega) (by omega) (fun j hj => by have h9 := h2 j hj; rw [← h1] at h9; exact h9), ok3, ?_⟩
  have okr : okR (1 + (x : Int)) = true := by unfold okR; exact decide_eq_true (by omega)
  have tn : (1 + (x : Int)).toNat = 1 + x := by omega
  have rn := rangeD_nat (1 + x)
  simp only [List.length_nil, List.map_nil, Int.natCast_add, Int.natCast_one] at e3
  rw [range'_0] at e3
  rw [e0]
  unfold b__law_passes
  simp [e1, e2, okr, tn, rn]
  simp [e3]
@[simp] theorem kG1_c (g : M (Dt × Bool)) (τ : Tau) (i : Nat) : kG1 1 g (some 0) (some ([Rs.sl i], τ)) = kG2 g (some 0) [Rs.sl i] τ (argsT (some 0) [Rs.sl i] τ) := by
  rw [kG1_a]
  · simp
  · simp
end K50
set_option Elab.async false
set_option linter.all false
set_option maxRecDepth 100000
set_option maxHeartbeats 8000000
namespace K50
open PySem L2 Iv PyProof.Rows
theorem add_L (A B : List Dt) (h : A.length + B.length ≤ 1000) : dAdd (.list A) (.list B) = some (.nw (.list (A ++ B))) := by
  show (if _ then _ else _) = _
  rw [if_pos (sl_small h)]
/-! ### what is no passes -/
def badA (L : List Ps) : List Dt := [.none, .tuple [], .list (L.map pe), .tuple (repD (L.map pe) 9), .tuple [.tuple [.str (Str.ofString "own"), .int 6]], .tuple [.tuple [.str (Str.ofString "own")]], .tuple [.tuple [.str (Str.ofString "to"), .int 0]], .tuple [.tuple [.str (Str.ofString "none"), .int 0]], .tuple [.list [.str (Str.ofString "own"), .int 1]]]
def badB (L : List Ps) : List Dt := [.tuple (L.map pe ++ [.none]), .tuple [.tuple [.str (Str.ofString "own"), .bool true]], .tuple [.tuple [.str (Str.ofString "to"), .int 5], .tuple [.str (Str.ofString "own"), .int 0]], .tuple [.tuple [.str (Str.ofString "to"), .str (Str.ofString "1")], .tuple [.str (Str.ofString "own"), .int 0]], .str (Str.ofString "own"), .int 5]
def badC : List Dt := [.tuple [.tuple [.str (Str.ofString "own"), .int (-1)]], .tuple [.tuple [.str (Str.ofString "by"), .int 1]], .tuple [.tuple [.str (Str.ofString "own"), .none]]]
section
variable {L : List Ps} (V : Val L)
include V
theorem bad_no {d : Dt} (h : d ∈ badA L ++ badB L ++ badC) : NoP d := by
  have hlo := V.lo
  have hhi := V.hi
  have nb : (Str.ofString "by" = sO) = False ∧ (Str.ofString "by" = sT) = False := by
    constructor <;> (simp only [eq_iff_iff, iff_false]; decide)
  have gp : ∀ p : Ps, good2 (pe p) = true := fun p => by cases p <;> rfl
  unfold badA badB badC at h
  simp only [List.mem_append, List.mem_cons, List.not_mem_nil, or_false] at h
  rcases h with ((rfl | rfl | rfl | rfl | rfl | rfl | rfl | rfl | rfl) | (rfl | rfl | rfl | rfl | rfl | rfl)) | (rfl | rfl | rfl)
  · exact s_are_bad rfl rfl
  · exact s_are_bad rfl rfl
  · exact s_are_bad rfl rfl
  · have hlen : (repD (L.map pe) 9).length = 9 * L.length := by
      unfold repD
      rw [PyProof.Rows.lm_len_rep_flat, List.length_map]
      rfl
    refine s_are_bad ?_ ?_
    · unfold good3
      simp only [noD_tuple, Bool.true_and, List.all_eq_true]
      intro x hx
      unfold repD at hx
      rw [List.mem_flatten] at hx
      obtain ⟨l, hl, hx⟩ := hx
      rw [List.eq_of_mem_replicate hl] at hx
      obtain ⟨p, _, rfl⟩ := List.mem_map.mp hx
      exact gp p
    · unfold szR
      rw [Bool.and_eq_false_iff]
      left
      simp only [hlen, Bool.and_eq_false_iff, decide_eq_false_iff_not]
      right
      omega
  · exact s_are_bad rfl (by simp [szR, allPs, isPs, Iv.inR])
  · exact s_are_bad rfl (by simp [szR, allPs, isPs])
  · have := s_are (L := [.to 0]) (by decide) (by simp [szR, allPs, isPs, Iv.inR, pe])
    exact this
  · exact s_are_bad rfl (by simp [szR, allPs, isPs])
  · exact s_are_bad rfl (by simp [szR, allPs, isPs])
  · refine s_are_bad ?_ ?_
    · unfold good3
      simp only [noD_tuple, Bool.true_and, List.all_eq_true]
      intro x hx
      rcases List.mem_append.mp hx with hx | hx
      · obtain ⟨p, _, rfl⟩ := List.mem_map.mp hx
        exact gp p
      · rw [List.mem_singleton.mp hx]; rfl
    · rw [Bool.and_eq_false_iff]
      right
      show (L.map pe ++ [PyData.none]).all _ = false
      rw [List.all_append]
      simp [isPs]
  · exact s_are_bad rfl (by simp [szR, allPs, isPs, Iv.inR])
  · exact s_are_bad rfl (by simp [szR, allPs, isPs, Iv.inR])
  · exact s_are_bad rfl (by simp [szR, allPs, isPs, Iv.inR])
  · exact s_are_bad rfl rfl
  · exact s_are_bad rfl rfl
  · exact s_are_bad rfl (by simp [szR, allPs, isPs, Iv.inR])
  · exact s_are_bad rfl (by simp [szR, allPs, isPs, nb.1, nb.2])
  · exact s_are_bad rfl (by simp [szR, allPs, isPs, Iv.inR])
theorem s_no (h : Hand) (ok : h.Ok) : ∃ (d : Dt) (h' : Hand), NoP d ∧ h'.Ok ∧ c__law_no_passes [.ow true h.d, .sh (TP L)] = some ((d, false), [.ow true h'.d, .un]) := by
  have e0 : c__law_no_passes [.ow true h.d, .sh (TP L)] = kFn [.ow true h.d, .sh (TP L)] (b__law_no_passes [.ow true h.d, .sh (TP L), .un]) := e_gFn _ _ _ _ rfl (by decide) rfl
  have hlo := V.lo
  have hhi := V.hi
  obtain ⟨d, hd, g, ok1, e1⟩ := s_any h ok (badA L ++ badB L ++ badC) (by unfold badA; simp) (by unfold badA badB badC; simp)
  refine ⟨d, g, bad_no V hd, ok1, ?_⟩
  have ne : L.map pe ≠ [] := by
    intro z
    have h9 : (L.map pe).length = 0 := by rw [z]; rfl
    rw [List.length_map] at h9
    omega
  have m9 := v_mulT (L.map pe) 9 ne (by decide) (by decide) (by simp; omega)
  have d0 : dAdd (TP L) (.tuple [.none]) = some (.v (.tuple (L.map pe ++ [.none]))) := by
    show (if _ then _ else _) = _
    rw [if_pos (by simp; exact sl_small (by omega))]
  have d1 := add_L (badA L) (badB L) (by unfold badA badB; simp)
  have d2 := add_L (badA L ++ badB L) badC (by unfold badA badB badC; simp)
  generalize badA L ++ badB L ++ badC = S2 at *
  generalize badA L ++ badB L = S1 at *
  unfold badA badB at d1
  unfold badC at d2
  generalize repD (L.map pe) 9 = X9 at *
  generalize L.map pe ++ [PyData.none] = X1 at *
  rw [e0]
  unfold b__law_no_passes
  simp [m9, d0, d1, d2, e1]
end
theorem voter_bad {L : List Ps} {d : Dt} (h : d ∈ [PyData.int (L.length : Int), .int (-1), .none, .bool true, .str (Str.ofString "0"), .tuple [.int 0]]) : noD d = true ∧ Iv.inR d 0 ((L.length : Int) - 1) = false := by
  simp only [List.mem_cons, List.not_mem_nil, or_false] at h
  rcases h with rfl | rfl | rfl | rfl | rfl | rfl
  · refine ⟨rfl, ?_⟩
    unfold Iv.inR
    simp only [Bool.and_eq_false_iff, decide_eq_false_iff_not]
    omega
  all_goals exact ⟨rfl, rfl⟩
end K50
set_option Elab.async false
set_option linter.all false
set_option maxRecDepth 100000
set_option maxHeartbeats 8000000
namespace K50
open PySem L2 Iv PyProof.Rows
/-! ### the words -/
def wL : List Dt := [.str (Str.ofString "NoPasses"), .str (Str.ofString "NoVoter"), .str (Str.ofString "NoPasses"), .str (Str.ofString "NoPasses"), .str (Str.ofString "NoPasses")]
theorem w_ne : dNe (.list wL) (.list wL) = some (.v (.bool false)) := by
  have h : SeqAt.shaped (.list wL) = true := by decide +kernel
  show (if _ then _ else _) = _
  rw [if_pos ⟨h, h⟩]
  have : PyData.eqv (.list wL) (.list wL) = true := by
    unfold wL
    simp [PyData.eqv, PyData.eqvAll]
  rw [this]
  rfl
def E12 : MS := (mSeq (mSet 10 (mLst (mA (mSaid (mCallF 2 c_end_of none (mA (mName 8) (mA (mName 9) mA0))) (mCallX 2 x_end_of (mA (mName 8) (mA (mName 9) mA0))) w__law_word (.str (Str.ofString "let"))) mA0)))
  (mSeq (mDrop (mMethS 10 "list" fApp (mA (mSaid (mCallF 2 c_end_of none (mA (mName 3) (mA (mName 9) mA0))) (mCallX 2 x_end_of (mA (mName 3) (mA (mName 9) mA0))) w__law_word (.str (Str.ofString "let"))) mA0)))
  (mSeq (mDrop (mMethS 10 "list" fApp (mA (mSaid (mCallF 1 c_weights none (mA (mName 8) mA0)) (mCallX 1 x_weights (mA (mName 8) mA0)) w__law_word (.str (Str.ofString "let"))) mA0)))
  (mSeq (mDrop (mMethS 10 "list" fApp (mA (mSaid (mCallF 1 c_outcome none (mA (mName 8) mA0)) (mCallX 1 x_outcome (mA (mName 8) mA0)) w__law_word (.str (Str.ofString "let"))) mA0)))
  (mSeq (mDrop (mMethS 10 "list" fApp (mA (mSaid (mCallF 1 c_pass_rounds none (mA (mName 8) mA0)) (mCallX 1 x_pass_rounds (mA (mName 8) mA0)) w__law_word (.str (Str.ofString "let"))) mA0)))
  (mIf (mFlag (mBin dNe (mName 10) (mLst (mA (mK (.str (Str.ofString "NoPasses"))) (mA (mK (.str (Str.ofString "NoVoter"))) (mA (mK (.str (Str.ofString "NoPasses"))) (mA (mK (.str (Str.ofString "NoPasses"))) (mA (mK (.str (Str.ofString "NoPasses"))) mA0)))))))) (mRet (mK (.bool false))) mNx))))))
theorem e12 {L : List Ps} (V : Val L) {d v : Dt} (hd : NoP d) (hv : noD v = true ∧ Iv.inR v 0 ((L.length : Int) - 1) = false) (s0 s1 s2 s4 s5 s6 s7 s10 s11 s12 : Sl) (f10 : fr s10 = true) :
    E12 [s0, s1, s2, .sh (TP L), s4, s5, s6, s7, .sh d, .sh v, s10, s11, s12] = some (.nx, [s0, s1, s2, .sh (TP L), s4, s5, s6, s7, .sh d, .sh v, .ow false (.list wL), s11, s12]) := by
  have a1 := x_end (v := v) hd
  have a2 := x_end2 V hv
  have a3 := x_wei hd
  have a4 := x_out hd
  have a5 := x_rou hd
  have w1 : w__law_word "NoPasses" = some (.str (Str.ofString "NoPasses")) := by rfl
  have w2 : w__law_word "NoVoter" = some (.str (Str.ofString "NoVoter")) := by rfl
  have nd := w_ne
  unfold wL at nd ⊢
  unfold E12
  generalize w__law_word = W0 at *
  simp [f10, a1, a2, a3, a4, a5, w1, w2, nd]
/-! ### what may be shown -/
theorem sho_row (n : Nat) (f : Nat → Nat) (hn : n ≤ 9) (hf : ∀ k, f k ≤ 1000) : Sho 13 1 (9 * 41) (.tuple (rowD n f)) := by
  have : rowD n f = ((List.range n).map fun k => ((f k : Nat) : Int)).map .int := by simp [rowD]
  rw [this]
  refine sho_ints (fun i hi => ?_) (by simp; omega)
  obtain ⟨k, _, rfl⟩ := List.mem_map.mp hi
  have := hf k
  rw [Int.natAbs_natCast]
  omega
theorem cnt_le (L : List Ps) (j e : Nat) : cnt L j e ≤ j := by
  unfold cnt
  have := List.countP_le_length (p := fun v => decide (ef L v = some e)) (l := List.range j)
  rwa [List.length_range] at this
theorem oc_le (L : List Ps) (w : Nat → Nat) (m : Nat) (hw : ∀ k, w k ≤ m) : ∀ j c, oc L w j c ≤ j * m
  | 0, c => by simp [oc]
  | j + 1, c => by
    rw [oc_succ, Nat.succ_mul]
    have := oc_le L w m hw j c
    have := hw j
    split <;> omega
theorem repr_opt (o : Option Nat) (h : ∀ e, o = some e → e ≤ 100) : ∃ x, fRepr [optD o] = some (.v (.str x)) := by
  cases o with
  | none => exact repr_none
  | some e => exact repr_small (by have := h e rfl; rw [Int.natAbs_natCast]; omega)
theorem repr_two {L : List Ps} (V : Val L) : ∃ x, fRepr [.list [.tuple (rowD L.length (cnt L L.length)), .tuple (rowD 6 (oc L (cnt L L.length) L.length))]] = some (.v (.str x)) := by
  have hhi := V.hi
  refine repr_lst (D := 2) (W := 2 * (9 * 41 + 1)) (sho_lst (D := 1) (N := 2) (fun d hd => ?_) (Nat.le_refl 2)) (by decide) (by decide)
  simp only [List.mem_cons, List.not_mem_nil, or_false] at hd
  rcases hd with rfl | rfl
  · exact sho_row _ _ (by omega) fun k => by have := cnt_le L L.length k; omega
  · refine sho_row _ _ (by decide) fun k => ?_
    have h1 := oc_le L (cnt L L.length) 8 (fun k => by have := cnt_le L L.length k; omega) L.length k
    have h2 : L.length * 8 ≤ 8 * 8 := Nat.mul_le_mul_right _ hhi
    omega
theorem repr_rounds {acc : List Dt} (h : acc.length ≤ 8 ∧ ∀ d ∈ acc, ∃ r : List Nat, d = .tuple (rowN r) ∧ r.length ≤ 9 ∧ ∀ x ∈ r, x < 9) : ∃ x, fRepr [.tuple acc] = some (.v (.str x)) := by
  refine repr_tup (D := 2) (W := 8 * (9 * 41 + 1)) (sho_tup (D := 1) (N := 8) (fun d hd => ?_) h.1) (by decide) (by decide)
  obtain ⟨r, rfl, h1, h2⟩ := h.2 d hd
  rw [rowN_int]
  refine sho_ints (fun i hi => ?_) (by simp; omega)
  obtain ⟨k, hk, rfl⟩ := List.mem_map.mp hi
  have := h2 k hk
  show (Int.ofNat k).natAbs < _
  simp
  omega
end K50
set_option Elab.async false
set_option linter.all false
set_option maxRecDepth 100000
set_option maxHeartbeats 8000000
namespace K50
open PySem L2 Iv PyProof.Rows
abbrev endsD (L : List Ps) : List Dt := (List.range L.length).map fun v => optD (ef L v)
theorem endsD_eq (L : List Ps) : endsD L = (ends L).map optD := by simp [endsD, ends]
section
variable {L : List Ps} (V : Val L)
include V
theorem rok : okR (L.length : Int) = true := by have := V.hi; unfold okR; exact decide_eq_true (by omega)
theorem ef_le (v : Nat) (hv : v < L.length) : ∀ e, ef L v = some e → e ≤ 100 := fun e h => by
  have := end_lt V hv h
  have := V.hi
  omega
theorem c5 (s0 s1 s2 s5 s6 s7 s8 s9 s10 s12 : Sl) : compL [11] (bName 11) tAll E_law_5 (rangeD 0 L.length) [] [s0, s1, s2, .sh (TP L), .sh (.int (L.length : Int)), s5, s6, s7, s8, s9, s10, .un, s12] = some (endsD L, [s0, s1, s2, .sh (TP L), .sh (.int (L.length : Int)), s5, s6, s7, s8, s9, s10, .un, s12]) := by
  rw [rangeD_nat]
  refine compL_all (fun (v : Nat) => .int v) (fun v => optD (ef L v)) (fun v hv => ?_) (by have := V.hi; simp; omega)
  have q := s_law_end V (List.mem_range.mp hv)
  have hq : endF L (L.length + 1) v = ef L v := rfl
  rw [hq] at q
  unfold E_law_5
  generalize optD (ef L v) = D at *
  simp [q]
theorem at_ends {v : Nat} (hv : v < L.length) : atI (endsD L) (v : Int) = some (optD (ef L v)) := atI_nat (by simp [endsD, hv])
theorem c6 (s0 s1 s2 s6 s7 s8 s9 s10 s12 : Sl) : compL [11] (bName 11) tAll E_law_4 (rangeD 0 L.length) [] [s0, s1, s2, .sh (TP L), .sh (.int (L.length : Int)), .ow false (.list (endsD L)), s6, s7, s8, s9, s10, .un, s12] = some ((List.range L.length).map (fun v => .bool true), [s0, s1, s2, .sh (TP L), .sh (.int (L.length : Int)), .ow false (.list (endsD L)), s6, s7, s8, s9, s10, .un, s12]) := by
  rw [rangeD_nat]
  refine compL_all (fun (v : Nat) => .int v) (fun v => .bool true) (fun v hv => ?_) (by have := V.hi; simp; omega)
  have hv := List.mem_range.mp hv
  have q := s_end_of V hv
  have hq : endF L (L.length + 1) v = ef L v := rfl
  rw [hq] at q
  have ha := at_ends V hv
  have i1 := s_is _ (repr_opt (ef L v) (ef_le V v hv))
  unfold E_law_4
  generalize optD (ef L v) = D at *
  generalize endsD L = E at *
  simp [q, ha, i1]
theorem c7 (s0 s1 s2 s6 s7 s8 s9 s10 s12 : Sl) : compL [11] (bName 11) tAll E_law_3 (rangeD 0 L.length) [] [s0, s1, s2, .sh (TP L), .sh (.int (L.length : Int)), .ow false (.list (endsD L)), s6, s7, s8, s9, s10, .un, s12] = some (rowD L.length (cnt L L.length), [s0, s1, s2, .sh (TP L), .sh (.int (L.length : Int)), .ow false (.list (endsD L)), s6, s7, s8, s9, s10, .un, s12]) := by
  rw [rangeD_nat]
  refine compL_all (fun (v : Nat) => .int v) (fun v => .int ((cnt L L.length v : Nat) : Int)) (fun v hv => ?_) (by have := V.hi; simp; omega)
  have q := cnt_opt (ends L) (some v)
  rw [← endsD_eq, cnt_ends] at q
  simp only [optD] at q
  unfold E_law_3
  generalize cnt L L.length v = N at *
  generalize endsD L = E at *
  simp [q]
theorem c8i (c : Nat) (s0 s1 s2 s5 s7 s8 s9 s10 : Sl) : compL [11] (bName 11) T_law_1 E_law_1 (rangeD 0 L.length) [] [s0, s1, s2, .sh (TP L), .sh (.int (L.length : Int)), s5, .ow false (.list (rowD L.length (cnt L L.length))), s7, s8, s9, s10, .un, .sh (.int (c : Int))] = some (((List.range L.length).filter fun v => decide (pa L v = .own c)).map (fun v => .int ((cnt L L.length v : Nat) : Int)), [s0, s1, s2, .sh (TP L), .sh (.int (L.length : Int)), s5, .ow false (.list (rowD L.length (cnt L L.length))), s7, s8, s9, s10, .un, .sh (.int (c : Int))]) := by
  rw [rangeD_nat]
  refine compL_if (fun (v : Nat) => .int v) (fun v => decide (pa L v = .own c)) (fun v => .int ((cnt L L.length v : Nat) : Int)) (fun v hv => ?_) (by have := V.hi; simp; omega)
  have hv := List.mem_range.mp hv
  have a1 := at_L hv
  rw [← pa_lt hv] at a1
  have q := eq_own (pa L v) c
  have a2 := row_at (n := L.length) (cnt L L.length) hv
  unfold T_law_1 E_law_1
  generalize rowD L.length (cnt L L.length) = R at *
  generalize cnt L L.length v = N at *
  by_cases hp : pa L v = .own c
  · rw [decide_eq_true hp] at q
    generalize pe (pa L v) = PP at *
    simp [a1, q, a2, hp]
  · rw [decide_eq_false hp] at q
    generalize pe (pa L v) = PP at *
    simp [a1, q, a2, hp]
omit V in
theorem sum_row (l : List Nat) (f : Nat → Nat) : fSum [.list (l.map fun v => .int ((f v : Nat) : Int))] = some (.v (.int (((l.map f).sum : Nat) : Int))) := by
  rw [v_sum1]
  have : ∀ l : List Nat, intsOf (l.map fun v => PyData.int ((f v : Nat) : Int)) = some (l.map fun v => ((f v : Nat) : Int)) := fun l => by
    induction l with
    | nil => rfl
    | cons x l ih => rw [List.map_cons, intsOf, ih]; rfl
  rw [this]
  show some (Rs.v (.int ((l.map fun v => ((f v : Nat) : Int)).sum))) = _
  congr 3
  induction l with
  | nil => rfl
  | cons x l ih => rw [List.map_cons, List.sum_cons, ih, List.map_cons, List.sum_cons, Int.natCast_add]
theorem c8 (s0 s1 s2 s5 s7 s8 s9 s10 : Sl) : compL [12] (bName 12) tAll E_law_2 (rangeD 0 6) [] [s0, s1, s2, .sh (TP L), .sh (.int (L.length : Int)), s5, .ow false (.list (rowD L.length (cnt L L.length))), s7, s8, s9, s10, .un, .un] = some (rowD 6 (oc L (cnt L L.length) L.length), [s0, s1, s2, .sh (TP L), .sh (.int (L.length : Int)), s5, .ow false (.list (rowD L.length (cnt L L.length))), s7, s8, s9, s10, .un, .un]) := by
  have r6 : rangeD 0 6 = (List.range 6).map fun (c : Nat) => PyData.int (c : Int) := rangeD_nat 6
  rw [r6]
  refine compL_all (fun (c : Nat) => .int c) (fun c => .int ((oc L (cnt L L.length) L.length c : Nat) : Int)) (fun c hc => ?_) (by simp)
  have q := c8i V c s0 s1 s2 s5 s7 s8 s9 s10
  have sm := sum_row ((List.range L.length).filter fun v => decide (pa L v = .own c)) (cnt L L.length)
  have ho : (((List.range L.length).filter fun v => decide (pa L v = .own c)).map (cnt L L.length)).sum = oc L (cnt L L.length) L.length c := rfl
  rw [ho] at sm
  have okr := rok V
  unfold E_law_2
  generalize oc L (cnt L L.length) L.length c = OC at *
  generalize (((List.range L.length).filter fun v => decide (pa L v = .own c)).map fun v => PyData.int ((cnt L L.length v : Nat) : Int)) = G at *
  generalize rowD L.length (cnt L L.length) = R at *
  simp [okr, q, sm, -v_sum1]
end
end K50
set_option Elab.async false
set_option linter.all false
set_option maxRecDepth 100000
set_option maxHeartbeats 8000000
namespace K50
open PySem L2 Iv PyProof.Rows
def B5 : MS := mSet 5 (mComp (mItems rng1L (mA (mName 4) mA0)) [11] (bName 11) tAll E_law_5)
def B6 : MS := mIf (mNot (mTruth (mCall fAll (mA (mComp (mItems rng1L (mA (mName 4) mA0)) [11] (bName 11) tAll E_law_4) mA0)))) (mRet (mK (.bool false))) mNx
def B7 : MS := mSet 6 (mComp (mItems rng1L (mA (mName 4) mA0)) [11] (bName 11) tAll E_law_3)
def B8 : MS := mSet 7 (mComp (mItems rng1L (mA (mK (.int 6)) mA0)) [12] (bName 12) tAll E_law_2)
def B9 : MS := mIf (mNot (mTruth (mCallF 2 c__law_is none (mA (mLst (mA (mCallF 1 c_weights none (mA (mName 3) mA0)) (mA (mCallF 1 c_outcome none (mA (mName 3) mA0)) mA0))) (mA (mLst (mA (mCall fTup (mA (mName 6) mA0)) (mA (mCall fTup (mA (mName 7) mA0)) mA0))) mA0))))) (mRet (mK (.bool false))) mNx
def B10 : MS := mIf (mOr (mNot (mTruth (mCallF 2 c__law_is none (mA (mCallF 1 c_pass_rounds none (mA (mName 3) mA0)) (mA (mCallF 1 c__law_rounds none (mA (mName 3) mA0)) mA0))))) (mFlag (mBin dNe (mCall fSum (mA (mName 6) mA0)) (mBin dSub (mName 4) (mMeth "list" fCntL (mName 5) (mA (mK .none) mA0)))))) (mRet (mK (.bool false))) mNx
def B11 : MS := mAsg (mTup (mA (mCallF 2 c__law_no_passes (some 0) (mA (mName 1) (mA (mName 3) mA0))) (mA (mCallF 2 c__law_any (some 0) (mA (mName 1) (mA (mLst (mA (mName 4) (mA (mUn dNeg (mK (.int 1))) (mA (mK .none) (mA (mK (.bool true)) (mA (mK (.str (Str.ofString "0"))) (mA (mTup (mA (mK (.int 0)) mA0)) mA0))))))) mA0))) mA0))) (bTup 2 (bCons (bName 8) (bCons (bName 9) bNil)))
section
variable {L : List Ps} (V : Val L)
include V
theorem b5 (s0 s1 s2 s5 s6 s7 s8 s9 s10 s12 : Sl) (f5 : fr s5 = true) : B5 [s0, s1, s2, .sh (TP L), .sh (.int (L.length : Int)), s5, s6, s7, s8, s9, s10, .un, s12] = some (.nx, [s0, s1, s2, .sh (TP L), .sh (.int (L.length : Int)), .ow false (.list (endsD L)), s6, s7, s8, s9, s10, .un, s12]) := by
  have c := c5 V s0 s1 s2 s5 s6 s7 s8 s9 s10 s12
  have okr := rok V
  unfold B5
  generalize endsD L = E at *
  simp [okr, c, f5]
theorem b6 (s0 s1 s2 s6 s7 s8 s9 s10 s12 : Sl) : B6 [s0, s1, s2, .sh (TP L), .sh (.int (L.length : Int)), .ow false (.list (endsD L)), s6, s7, s8, s9, s10, .un, s12] = some (.nx, [s0, s1, s2, .sh (TP L), .sh (.int (L.length : Int)), .ow false (.list (endsD L)), s6, s7, s8, s9, s10, .un, s12]) := by
  have c := c6 V s0 s1 s2 s6 s7 s8 s9 s10 s12
  have okr := rok V
  have va := v_allM (fun (v : Nat) => true) (List.range L.length)
  have ht : ((List.range L.length).all fun v => true) = true := by simp
  rw [ht] at va
  unfold B6
  generalize endsD L = E at *
  generalize ((List.range L.length).map fun v => PyData.bool true) = G at *
  simp [okr, c, va, -Iv.v_all]
theorem b7 (s0 s1 s2 s6 s7 s8 s9 s10 s12 : Sl) (f6 : fr s6 = true) : B7 [s0, s1, s2, .sh (TP L), .sh (.int (L.length : Int)), .ow false (.list (endsD L)), s6, s7, s8, s9, s10, .un, s12] = some (.nx, [s0, s1, s2, .sh (TP L), .sh (.int (L.length : Int)), .ow false (.list (endsD L)), .ow false (.list (rowD L.length (cnt L L.length))), s7, s8, s9, s10, .un, s12]) := by
  have c := c7 V s0 s1 s2 s6 s7 s8 s9 s10 s12
  have okr := rok V
  unfold B7
  generalize endsD L = E at *
  generalize rowD L.length (cnt L L.length) = R at *
  simp [okr, c, f6]
theorem b8 (s0 s1 s2 s5 s7 s8 s9 s10 : Sl) (f7 : fr s7 = true) : B8 [s0, s1, s2, .sh (TP L), .sh (.int (L.length : Int)), s5, .ow false (.list (rowD L.length (cnt L L.length))), s7, s8, s9, s10, .un, .un] = some (.nx, [s0, s1, s2, .sh (TP L), .sh (.int (L.length : Int)), s5, .ow false (.list (rowD L.length (cnt L L.length))), .ow false (.list (rowD 6 (oc L (cnt L L.length) L.length))), s8, s9, s10, .un, .un]) := by
  have c := c8 V s0 s1 s2 s5 s7 s8 s9 s10
  have ok6 : okR 6 = true := by decide
  have t6 : Int.toNat 6 = 6 := rfl
  unfold B8
  generalize rowD 6 (oc L (cnt L L.length) L.length) = R2 at *
  generalize rowD L.length (cnt L L.length) = R at *
  simp [ok6, t6, c, f7]
theorem b9 (s0 s1 s2 s4 s5 s8 s9 s10 s11 s12 : Sl) : B9 [s0, s1, s2, .sh (TP L), s4, s5, .ow false (.list (rowD L.length (cnt L L.length))), .ow false (.list (rowD 6 (oc L (cnt L L.length) L.length))), s8, s9, s10, s11, s12] = some (.nx, [s0, s1, s2, .sh (TP L), s4, s5, .ow false (.list (rowD L.length (cnt L L.length))), .ow false (.list (rowD 6 (oc L (cnt L L.length) L.length))), s8, s9, s10, s11, s12]) := by
  have q1 := s_weights V
  have q2 := s_outcome V
  have i1 := s_is _ (repr_two V)
  unfold B9
  generalize rowD 6 (oc L (cnt L L.length) L.length) = R2 at *
  generalize rowD L.length (cnt L L.length) = R at *
  simp [q1, q2, i1]
theorem b10 (s0 s1 s2 s7 s8 s9 s10 s11 s12 : Sl) : B10 [s0, s1, s2, .sh (TP L), .sh (.int (L.length : Int)), .ow false (.list (endsD L)), .ow false (.list (rowD L.length (cnt L L.length))), s7, s8, s9, s10, s11, s12] = some (.nx, [s0, s1, s2, .sh (TP L), .sh (.int (L.length : Int)), .ow false (.list (endsD L)), .ow false (.list (rowD L.length (cnt L L.length))), s7, s8, s9, s10, s11, s12]) := by
  obtain ⟨acc, ha, q1, q2⟩ := s_rounds V
  have i1 := s_is _ (repr_rounds ha)
  have sm := sum_row (List.range L.length) (cnt L L.length)
  have ce := cnt_opt (ends L) none
  rw [← endsD_eq] at ce
  simp only [optD] at ce
  have su := sum_cnt V
  generalize ((List.range L.length).map (cnt L L.length)).sum = S1 at *
  generalize (ends L).countP (fun o => decide (o = none)) = C1 at *
  have hs : (S1 : Int) = (L.length : Int) - C1 := by omega
  rw [hs] at sm
  unfold B10
  generalize endsD L = E at *
  have sm' : fSum [.list (rowD L.length (cnt L L.length))] = some (.v (.int ((L.length : Int) - C1))) := sm
  generalize rowD L.length (cnt L L.length) = R at *
  simp [q1, q2, i1, sm', ce, -v_sum1]
theorem b11 (h : Hand) (ok : h.Ok) (s0 s2 s5 s6 s7 s8 s9 s10 s11 s12 : Sl) (f8 : fr s8 = true) (f9 : fr s9 = true) : ∃ (d v : Dt) (h' : Hand), NoP d ∧ (noD v = true ∧ Iv.inR v 0 ((L.length : Int) - 1) = false) ∧ h'.Ok ∧
    B11 [s0, .ow false h.d, s2, .sh (TP L), .sh (.int (L.length : Int)), s5, s6, s7, s8, s9, s10, s11, s12] = some (.nx, [s0, .ow false h'.d, s2, .sh (TP L), .sh (.int (L.length : Int)), s5, s6, s7, .sh d, .sh v, s10, s11, s12]) := by
  obtain ⟨d, g, hd, ok1, e1⟩ := s_no V h ok
  obtain ⟨v, hv, g2, ok2, e2⟩ := s_any g ok1 [PyData.int (L.length : Int), .int (-1), .none, .bool true, .str (Str.ofString "0"), .tuple [.int 0]] (by simp) (by simp)
  refine ⟨d, v, g2, hd, voter_bad hv, ok2, ?_⟩
  unfold B11
  simp [e1, e2, f8, f9]
end
theorem mturn (h : Hand) (ok : h.Ok) (t : Dt) (s0 s2 s3 s4 s5 s6 s7 s8 s9 s10 : Sl) (f2 : fr s2 = true) (f3 : fr s3 = true) (f4 : fr s4 = true) (f5 : fr s5 = true) (f6 : fr s6 = true) (f7 : fr s7 = true) (f8 : fr s8 = true) (f9 : fr s9 = true) (f10 : fr s10 = true) :
    ∃ (h' : Hand) (s2' s3' s4' s5' s6' s7' s8' s9' s10' : Sl), h'.Ok ∧ fr s2' = true ∧ fr s3' = true ∧ fr s4' = true ∧ fr s5' = true ∧ fr s6' = true ∧ fr s7' = true ∧ fr s8' = true ∧ fr s9' = true ∧ fr s10' = true ∧
    kL1 L_law_1 (bName 2 t [s0, .ow false h.d, s2, s3, s4, s5, s6, s7, s8, s9, s10, .un, .un]) = some (.nx, [s0, .ow false h'.d, s2', s3', s4', s5', s6', s7', s8', s9', s10', .un, .un]) := by
  obtain ⟨L, h1, V, ok1, e3⟩ := s_passes h ok
  have e5 := b5 V s0 (.ow false h1.d) (.sh t) s5 s6 s7 s8 s9 s10 .un f5
  have e6 := b6 V s0 (.ow false h1.d) (.sh t) s6 s7 s8 s9 s10 .un
  have e7 := b7 V s0 (.ow false h1.d) (.sh t) s6 s7 s8 s9 s10 .un f6
  have e8 := b8 V s0 (.ow false h1.d) (.sh t) (.ow false (.list (endsD L))) s7 s8 s9 s10 f7
  have e9 := b9 V s0 (.ow false h1.d) (.sh t) (.sh (.int (L.length : Int))) (.ow false (.list (endsD L))) s8 s9 s10 .un .un
  have e10 := b10 V s0 (.ow false h1.d) (.sh t) (.ow false (.list (rowD 6 (oc L (cnt L L.length) L.length)))) s8 s9 s10 .un .un
  obtain ⟨d, v, h2, hd, hv, ok2, e11⟩ := b11 V h1 ok1 s0 (.sh t) (.ow false (.list (endsD L))) (.ow false (.list (rowD L.length (cnt L L.length)))) (.ow false (.list (rowD 6 (oc L (cnt L L.length) L.length)))) s8 s9 s10 .un .un f8 f9
  have e12' := e12 V hd hv s0 (.ow false h2.d) (.sh t) (.sh (.int (L.length : Int))) (.ow false (.list (endsD L))) (.ow false (.list (rowD L.length (cnt L L.length)))) (.ow false (.list (rowD 6 (oc L (cnt L L.length) L.length)))) s10 .un .un f10
  refine ⟨h2, .sh t, .sh (TP L), .sh (.int (L.length : Int)), .ow false (.list (endsD L)), .ow false (.list (rowD L.length (cnt L L.length))), .ow false (.list (rowD 6 (oc L (cnt L L.length) L.length))), .sh d, .sh v, .ow false (.list wL), ok2, rfl, rfl, rfl, rfl, rfl, rfl, rfl, rfl, rfl, ?_⟩
  have hl : fLen [TP L] = some (.v (.int (L.length : Int))) := by simp
  generalize endsD L = E at *
  generalize rowD 6 (oc L (cnt L L.length) L.length) = R2 at *
  generalize rowD L.length (cnt L L.length) = R at *
  generalize TP L = p at *
  generalize wL = U at *
  show kL1 (mSeq _ (mSeq _ (mSeq B5 (mSeq B6 (mSeq B7 (mSeq B8 (mSeq B9 (mSeq B10 (mSeq B11 E12))))))))) _ = _
  simp [f2, f3, f4, e3, hl, e5, e6, e7, e8, e9, e10, e11, e12']
theorem law_true (ns : List Int) (h : ns.length ≤ 63) : ∃ τ1, c_law [.sh (.list (ns.map .int))] = some ((.bool true, false), τ1) := by
  refine ⟨[.un], ?_⟩
  have e0 : c_law [.sh (.list (ns.map .int))] = kFn [.sh (.list (ns.map .int))] (b_law [.sh (.list (ns.map .int)), .un, .un, .un, .un, .un, .un, .un, .un, .un, .un, .un, .un]) := e_gFn _ _ _ _ rfl (by decide) rfl
  rw [e0]
  have eh := s_hand ns h
  generalize ns.map PyData.int = sc at *
  have okh := hand0_ok 47569 ns
  generalize hand0 47569 ns = h0 at *
  obtain ⟨τ1, f1, hb, s2, s3, s4, s5, s6, s7, s8, s9, s10, okb, _, _, _, _, _, _, _, _, _, f2⟩ := forL_inv (b := bName 2) (body := L_law_1) (fun k τ => ∃ (hb : Hand) (s2 s3 s4 s5 s6 s7 s8 s9 s10 : Sl), hb.Ok ∧ fr s2 = true ∧ fr s3 = true ∧ fr s4 = true ∧ fr s5 = true ∧ fr s6 = true ∧ fr s7 = true ∧ fr s8 = true ∧ fr s9 = true ∧ fr s10 = true ∧ τ = [.sh (.list sc), .ow false hb.d, s2, s3, s4, s5, s6, s7, s8, s9, s10, .un, .un])
    (items := rangeD 0 8) (τ := [.sh (.list sc), .ow false h0.d, .un, .un, .un, .un, .un, .un, .un, .un, .un, .un, .un]) 0 ⟨h0, .un, .un, .un, .un, .un, .un, .un, .un, .un, okh, rfl, rfl, rfl, rfl, rfl, rfl, rfl, rfl, rfl, rfl⟩ (fun i d τ hd hp => by
      obtain ⟨hb, s2, s3, s4, s5, s6, s7, s8, s9, s10, okb, g2, g3, g4, g5, g6, g7, g8, g9, g10, rfl⟩ := hp
      obtain ⟨h', s2', s3', s4', s5', s6', s7', s8', s9', s10', ok', q2, q3, q4, q5, q6, q7, q8, q9, q10, e⟩ := mturn hb okb d (.sh (.list sc)) s2 s3 s4 s5 s6 s7 s8 s9 s10 g2 g3 g4 g5 g6 g7 g8 g9 g10
      exact ⟨_, e, h', s2', s3', s4', s5', s6', s7', s8', s9', s10', ok', q2, q3, q4, q5, q6, q7, q8, q9, q10, rfl⟩)
  subst f2
  have ok : okR 8 = true := by decide
  have t3 : Int.toNat 8 = 8 := rfl
  unfold b_law
  simp [eh, ok, t3]
  simp [f1]
end K50
set_option Elab.async false
set_option linter.all false
set_option maxRecDepth 100000
set_option maxHeartbeats 4000000
namespace K50
open PySem L2 Iv PyProof.Rows
theorem all_mk {l : PySem.W.OpenLaw} {w : World} {K : PySem.W.Frag} {h : Heap} {mg : Str → Option Value} {fa c Pt : Addr} (X : K.In h) (G : h.Ns mainGlobals mg) (hfa : mg "law" = some (.ref fa))
    {e_VoteError : Addr} (g_VoteError : PySem.W.nsIn K mainGlobals "VoteError" = some (some (.ref e_VoteError))) (h1_VoteError : PySem.W.findIn K (.ref e_VoteError) "__getattribute__" = some (some (.builtin "BaseException.__getattribute__"))) (h2_VoteError : PySem.W.findIn K (.ref e_VoteError) "__getattr__" = some none) (h3_VoteError : PySem.W.subIn K (.ref e_VoteError) (.type "BaseException") = some true) (h4_VoteError : PySem.W.hasDictIn K e_VoteError = true) (h5_VoteError : PySem.W.findIn K (.ref e_VoteError) "__class__" = some (some (.builtin "object.__class__"))) (h8_VoteError : PySem.W.mroIn K e_VoteError (.type "object") = some true) (kv_VoteError : PySem.W.kitOne K (.ref e_VoteError) (.type "ValueError") = some true)
    {e_NoPasses : Addr} (g_NoPasses : PySem.W.nsIn K mainGlobals "NoPasses" = some (some (.ref e_NoPasses))) (h1_NoPasses : PySem.W.findIn K (.ref e_NoPasses) "__getattribute__" = some (some (.builtin "BaseException.__getattribute__"))) (h2_NoPasses : PySem.W.findIn K (.ref e_NoPasses) "__getattr__" = some none) (h3_NoPasses : PySem.W.subIn K (.ref e_NoPasses) (.type "BaseException") = some true) (h4_NoPasses : PySem.W.hasDictIn K e_NoPasses = true) (h5_NoPasses : PySem.W.findIn K (.ref e_NoPasses) "__class__" = some (some (.builtin "object.__class__"))) (h8_NoPasses : PySem.W.mroIn K e_NoPasses (.type "object") = some true) (kv_NoPasses : PySem.W.kitOne K (.ref e_NoPasses) (.type "ValueError") = some true)
    (e1_NoPasses : PySem.W.excIn K e_NoPasses [.type "ValueError", .type "Exception", .type "BaseException", .type "object"] "ValueError.__new__" = true) (e2_NoPasses : PySem.W.keepIn K (.ref e_NoPasses) = true) (e4_NoPasses : PySem.W.typeIn K (.ref e_NoPasses) = some (.type "type"))
    {e_NoVoter : Addr} (g_NoVoter : PySem.W.nsIn K mainGlobals "NoVoter" = some (some (.ref e_NoVoter))) (h1_NoVoter : PySem.W.findIn K (.ref e_NoVoter) "__getattribute__" = some (some (.builtin "BaseException.__getattribute__"))) (h2_NoVoter : PySem.W.findIn K (.ref e_NoVoter) "__getattr__" = some none) (h3_NoVoter : PySem.W.subIn K (.ref e_NoVoter) (.type "BaseException") = some true) (h4_NoVoter : PySem.W.hasDictIn K e_NoVoter = true) (h5_NoVoter : PySem.W.findIn K (.ref e_NoVoter) "__class__" = some (some (.builtin "object.__class__"))) (h8_NoVoter : PySem.W.mroIn K e_NoVoter (.type "object") = some true) (kv_NoVoter : PySem.W.kitOne K (.ref e_NoVoter) (.type "ValueError") = some true)
    (e1_NoVoter : PySem.W.excIn K e_NoVoter [.type "ValueError", .type "Exception", .type "BaseException", .type "object"] "ValueError.__new__" = true) (e2_NoVoter : PySem.W.keepIn K (.ref e_NoVoter) = true) (e4_NoVoter : PySem.W.typeIn K (.ref e_NoVoter) = some (.type "type"))
    (hx6 : PySem.W.specialIn K (.builtin "object.__class__") "__get__" = some (some (.builtin "getset_descriptor.__get__"))) (hx7 : PySem.W.takesIn K (.builtin "object.__class__") = some true)
    (kk_VoteError_VoteError : PySem.W.kitOne K (.ref e_VoteError) (.ref e_VoteError) = some true) (ke_VoteError_VoteError : PySem.W.exmOne K (.ref e_VoteError) (.ref e_VoteError) = some true)
    (kk_VoteError_NoPasses : PySem.W.kitOne K (.ref e_VoteError) (.ref e_NoPasses) = some false) (ke_VoteError_NoPasses : PySem.W.exmOne K (.ref e_VoteError) (.ref e_NoPasses) = some false)
    (kk_VoteError_NoVoter : PySem.W.kitOne K (.ref e_VoteError) (.ref e_NoVoter) = some false) (ke_VoteError_NoVoter : PySem.W.exmOne K (.ref e_VoteError) (.ref e_NoVoter) = some false)
    (kk_NoPasses_VoteError : PySem.W.kitOne K (.ref e_NoPasses) (.ref e_VoteError) = some true) (ke_NoPasses_VoteError : PySem.W.exmOne K (.ref e_NoPasses) (.ref e_VoteError) = some true)
    (kk_NoPasses_NoPasses : PySem.W.kitOne K (.ref e_NoPasses) (.ref e_NoPasses) = some true) (ke_NoPasses_NoPasses : PySem.W.exmOne K (.ref e_NoPasses) (.ref e_NoPasses) = some true)
    (kk_NoPasses_NoVoter : PySem.W.kitOne K (.ref e_NoPasses) (.ref e_NoVoter) = some false) (ke_NoPasses_NoVoter : PySem.W.exmOne K (.ref e_NoPasses) (.ref e_NoVoter) = some false)
    (kk_NoVoter_VoteError : PySem.W.kitOne K (.ref e_NoVoter) (.ref e_VoteError) = some true) (ke_NoVoter_VoteError : PySem.W.exmOne K (.ref e_NoVoter) (.ref e_VoteError) = some true)
    (kk_NoVoter_NoPasses : PySem.W.kitOne K (.ref e_NoVoter) (.ref e_NoPasses) = some false) (ke_NoVoter_NoPasses : PySem.W.exmOne K (.ref e_NoVoter) (.ref e_NoPasses) = some false)
    (kk_NoVoter_NoVoter : PySem.W.kitOne K (.ref e_NoVoter) (.ref e_NoVoter) = some true) (ke_NoVoter_NoVoter : PySem.W.exmOne K (.ref e_NoVoter) (.ref e_NoVoter) = some true)
    {f0 : Addr} {od0 an0 : Option Addr} {sl0 : Array (Option Value)} {oc0 kV0 dc0 pm0 cd0 ct0 : Value}
    (a0 : PySem.W.nsIn K mainGlobals "is_integer" = some (some (.ref f0))) (l0 : K.lookup f0 = some ⟨oc0, od0, .func (PySem.W.fnOf "is_integer" "is_integer" (defArgs st_is_integer) (defBody st_is_integer) (defScope st_is_integer) .none kV0 dc0 pm0 an0 cd0 ct0), sl0⟩) (c0 : PySem.W.codeIn K cd0 "is_integer" = true) (k0 : PySem.W.keepIn K (.ref f0) = true)
    {f1 : Addr} {od1 an1 : Option Addr} {sl1 : Array (Option Value)} {oc1 kV1 dc1 pm1 cd1 ct1 : Value}
    (a1 : PySem.W.nsIn K mainGlobals "is_within" = some (some (.ref f1))) (l1 : K.lookup f1 = some ⟨oc1, od1, .func (PySem.W.fnOf "is_within" "is_within" (defArgs st_is_within) (defBody st_is_within) (defScope st_is_within) .none kV1 dc1 pm1 an1 cd1 ct1), sl1⟩) (c1 : PySem.W.codeIn K cd1 "is_within" = true) (k1 : PySem.W.keepIn K (.ref f1) = true)
    {f2 : Addr} {od2 an2 : Option Addr} {sl2 : Array (Option Value)} {oc2 kV2 dc2 pm2 cd2 ct2 : Value}
    (a2 : PySem.W.nsIn K mainGlobals "is_pass" = some (some (.ref f2))) (l2 : K.lookup f2 = some ⟨oc2, od2, .func (PySem.W.fnOf "is_pass" "is_pass" (defArgs st_is_pass) (defBody st_is_pass) (defScope st_is_pass) .none kV2 dc2 pm2 an2 cd2 ct2), sl2⟩) (c2 : PySem.W.codeIn K cd2 "is_pass" = true) (k2 : PySem.W.keepIn K (.ref f2) = true)
    {f3 : Addr} {od3 an3 : Option Addr} {sl3 : Array (Option Value)} {oc3 kV3 dc3 pm3 cd3 ct3 : Value}
    (a3 : PySem.W.nsIn K mainGlobals "is_sized" = some (some (.ref f3))) (l3 : K.lookup f3 = some ⟨oc3, od3, .func (PySem.W.fnOf "is_sized" "is_sized" (defArgs st_is_sized) (defBody st_is_sized) (defScope st_is_sized) .none kV3 dc3 pm3 an3 cd3 ct3), sl3⟩) (c3 : PySem.W.codeIn K cd3 "is_sized" = true) (k3 : PySem.W.keepIn K (.ref f3) = true)
    {f4 : Addr} {od4 an4 : Option Addr} {sl4 : Array (Option Value)} {oc4 kV4 dc4 pm4 cd4 ct4 : Value}
    (a4 : PySem.W.nsIn K mainGlobals "are_passes" = some (some (.ref f4))) (l4 : K.lookup f4 = some ⟨oc4, od4, .func (PySem.W.fnOf "are_passes" "are_passes" (defArgs st_are_passes) (defBody st_are_passes) (defScope st_are_passes) .none kV4 dc4 pm4 an4 cd4 ct4), sl4⟩) (c4 : PySem.W.codeIn K cd4 "are_passes" = true) (k4 : PySem.W.keepIn K (.ref f4) = true)
    {f5 : Addr} {od5 an5 : Option Addr} {sl5 : Array (Option Value)} {oc5 kV5 dc5 pm5 cd5 ct5 : Value}
    (a5 : PySem.W.nsIn K mainGlobals "check_passes" = some (some (.ref f5))) (l5 : K.lookup f5 = some ⟨oc5, od5, .func (PySem.W.fnOf "check_passes" "check_passes" (defArgs st_check_passes) (defBody st_check_passes) (defScope st_check_passes) .none kV5 dc5 pm5 an5 cd5 ct5), sl5⟩) (c5 : PySem.W.codeIn K cd5 "check_passes" = true) (k5 : PySem.W.keepIn K (.ref f5) = true)
    {f6 : Addr} {od6 an6 : Option Addr} {sl6 : Array (Option Value)} {oc6 kV6 dc6 pm6 cd6 ct6 : Value}
    (a6 : PySem.W.nsIn K mainGlobals "pass_rounds" = some (some (.ref f6))) (l6 : K.lookup f6 = some ⟨oc6, od6, .func (PySem.W.fnOf "pass_rounds" "pass_rounds" (defArgs st_pass_rounds) (defBody st_pass_rounds) (defScope st_pass_rounds) .none kV6 dc6 pm6 an6 cd6 ct6), sl6⟩) (c6 : PySem.W.codeIn K cd6 "pass_rounds" = true) (k6 : PySem.W.keepIn K (.ref f6) = true)
    {f7 : Addr} {od7 an7 : Option Addr} {sl7 : Array (Option Value)} {oc7 kV7 dc7 pm7 cd7 ct7 : Value}
    (a7 : PySem.W.nsIn K mainGlobals "raw_end" = some (some (.ref f7))) (l7 : K.lookup f7 = some ⟨oc7, od7, .func (PySem.W.fnOf "raw_end" "raw_end" (defArgs st_raw_end) (defBody st_raw_end) (defScope st_raw_end) .none kV7 dc7 pm7 an7 cd7 ct7), sl7⟩) (c7 : PySem.W.codeIn K cd7 "raw_end" = true) (k7 : PySem.W.keepIn K (.ref f7) = true)
    {f8 : Addr} {od8 an8 : Option Addr} {sl8 : Array (Option Value)} {oc8 kV8 dc8 pm8 cd8 ct8 : Value}
    (a8 : PySem.W.nsIn K mainGlobals "raw_weights" = some (some (.ref f8))) (l8 : K.lookup f8 = some ⟨oc8, od8, .func (PySem.W.fnOf "raw_weights" "raw_weights" (defArgs st_raw_weights) (defBody st_raw_weights) (defScope st_raw_weights) .none kV8 dc8 pm8 an8 cd8 ct8), sl8⟩) (c8 : PySem.W.codeIn K cd8 "raw_weights" = true) (k8 : PySem.W.keepIn K (.ref f8) = true)
    {f9 : Addr} {od9 an9 : Option Addr} {sl9 : Array (Option Value)} {oc9 kV9 dc9 pm9 cd9 ct9 : Value}
    (a9 : PySem.W.nsIn K mainGlobals "raw_outcome" = some (some (.ref f9))) (l9 : K.lookup f9 = some ⟨oc9, od9, .func (PySem.W.fnOf "raw_outcome" "raw_outcome" (defArgs st_raw_outcome) (defBody st_raw_outcome) (defScope st_raw_outcome) .none kV9 dc9 pm9 an9 cd9 ct9), sl9⟩) (c9 : PySem.W.codeIn K cd9 "raw_outcome" = true) (k9 : PySem.W.keepIn K (.ref f9) = true)
    {f10 : Addr} {od10 an10 : Option Addr} {sl10 : Array (Option Value)} {oc10 kV10 dc10 pm10 cd10 ct10 : Value}
    (a10 : PySem.W.nsIn K mainGlobals "outcome" = some (some (.ref f10))) (l10 : K.lookup f10 = some ⟨oc10, od10, .func (PySem.W.fnOf "outcome" "outcome" (defArgs st_outcome) (defBody st_outcome) (defScope st_outcome) .none kV10 dc10 pm10 an10 cd10 ct10), sl10⟩) (c10 : PySem.W.codeIn K cd10 "outcome" = true) (k10 : PySem.W.keepIn K (.ref f10) = true)
    {f11 : Addr} {od11 an11 : Option Addr} {sl11 : Array (Option Value)} {oc11 kV11 dc11 pm11 cd11 ct11 : Value}
    (a11 : PySem.W.nsIn K mainGlobals "weights" = some (some (.ref f11))) (l11 : K.lookup f11 = some ⟨oc11, od11, .func (PySem.W.fnOf "weights" "weights" (defArgs st_weights) (defBody st_weights) (defScope st_weights) .none kV11 dc11 pm11 an11 cd11 ct11), sl11⟩) (c11 : PySem.W.codeIn K cd11 "weights" = true) (k11 : PySem.W.keepIn K (.ref f11) = true)
    {f12 : Addr} {od12 an12 : Option Addr} {sl12 : Array (Option Value)} {oc12 kV12 dc12 pm12 cd12 ct12 : Value}
    (a12 : PySem.W.nsIn K mainGlobals "check_voter" = some (some (.ref f12))) (l12 : K.lookup f12 = some ⟨oc12, od12, .func (PySem.W.fnOf "check_voter" "check_voter" (defArgs st_check_voter) (defBody st_check_voter) (defScope st_check_voter) .none kV12 dc12 pm12 an12 cd12 ct12), sl12⟩) (c12 : PySem.W.codeIn K cd12 "check_voter" = true) (k12 : PySem.W.keepIn K (.ref f12) = true)
    {f13 : Addr} {od13 an13 : Option Addr} {sl13 : Array (Option Value)} {oc13 kV13 dc13 pm13 cd13 ct13 : Value}
    (a13 : PySem.W.nsIn K mainGlobals "end_of" = some (some (.ref f13))) (l13 : K.lookup f13 = some ⟨oc13, od13, .func (PySem.W.fnOf "end_of" "end_of" (defArgs st_end_of) (defBody st_end_of) (defScope st_end_of) .none kV13 dc13 pm13 an13 cd13 ct13), sl13⟩) (c13 : PySem.W.codeIn K cd13 "end_of" = true) (k13 : PySem.W.keepIn K (.ref f13) = true)
    {f14 : Addr} {od14 an14 : Option Addr} {sl14 : Array (Option Value)} {oc14 kV14 dc14 pm14 cd14 ct14 : Value}
    (a14 : PySem.W.nsIn K mainGlobals "_law_draw" = some (some (.ref f14))) (l14 : K.lookup f14 = some ⟨oc14, od14, .func (PySem.W.fnOf "_law_draw" "_law_draw" (defArgs st__law_draw) (defBody st__law_draw) (defScope st__law_draw) .none kV14 dc14 pm14 an14 cd14 ct14), sl14⟩) (c14 : PySem.W.codeIn K cd14 "_law_draw" = true) (k14 : PySem.W.keepIn K (.ref f14) = true)
    {f15 : Addr} {od15 an15 : Option Addr} {sl15 : Array (Option Value)} {oc15 kV15 dc15 pm15 cd15 ct15 : Value}
    (a15 : PySem.W.nsIn K mainGlobals "_law_any" = some (some (.ref f15))) (l15 : K.lookup f15 = some ⟨oc15, od15, .func (PySem.W.fnOf "_law_any" "_law_any" (defArgs st__law_any) (defBody st__law_any) (defScope st__law_any) .none kV15 dc15 pm15 an15 cd15 ct15), sl15⟩) (c15 : PySem.W.codeIn K cd15 "_law_any" = true) (k15 : PySem.W.keepIn K (.ref f15) = true)
    {f16 : Addr} {od16 an16 : Option Addr} {sl16 : Array (Option Value)} {oc16 kV16 dc16 pm16 cd16 ct16 : Value}
    (a16 : PySem.W.nsIn K mainGlobals "_law_no_passes" = some (some (.ref f16))) (l16 : K.lookup f16 = some ⟨oc16, od16, .func (PySem.W.fnOf "_law_no_passes" "_law_no_passes" (defArgs st__law_no_passes) (defBody st__law_no_passes) (defScope st__law_no_passes) .none kV16 dc16 pm16 an16 cd16 ct16), sl16⟩) (c16 : PySem.W.codeIn K cd16 "_law_no_passes" = true) (k16 : PySem.W.keepIn K (.ref f16) = true)
    {f17 : Addr} {od17 an17 : Option Addr} {sl17 : Array (Option Value)} {oc17 kV17 dc17 pm17 cd17 ct17 : Value}
    (a17 : PySem.W.nsIn K mainGlobals "_law_is" = some (some (.ref f17))) (l17 : K.lookup f17 = some ⟨oc17, od17, .func (PySem.W.fnOf "_law_is" "_law_is" (defArgs st__law_is) (defBody st__law_is) (defScope st__law_is) .none kV17 dc17 pm17 an17 cd17 ct17), sl17⟩) (c17 : PySem.W.codeIn K cd17 "_law_is" = true) (k17 : PySem.W.keepIn K (.ref f17) = true)
    {f18 : Addr} {od18 an18 : Option Addr} {sl18 : Array (Option Value)} {oc18 kV18 dc18 pm18 cd18 ct18 : Value}
    (a18 : PySem.W.nsIn K mainGlobals "_law_rounds" = some (some (.ref f18))) (l18 : K.lookup f18 = some ⟨oc18, od18, .func (PySem.W.fnOf "_law_rounds" "_law_rounds" (defArgs st__law_rounds) (defBody st__law_rounds) (defScope st__law_rounds) .none kV18 dc18 pm18 an18 cd18 ct18), sl18⟩) (c18 : PySem.W.codeIn K cd18 "_law_rounds" = true) (k18 : PySem.W.keepIn K (.ref f18) = true)
    {f19 : Addr} {od19 an19 : Option Addr} {sl19 : Array (Option Value)} {oc19 kV19 dc19 pm19 cd19 ct19 : Value}
    (a19 : PySem.W.nsIn K mainGlobals "_law_end" = some (some (.ref f19))) (l19 : K.lookup f19 = some ⟨oc19, od19, .func (PySem.W.fnOf "_law_end" "_law_end" (defArgs st__law_end) (defBody st__law_end) (defScope st__law_end) .none kV19 dc19 pm19 an19 cd19 ct19), sl19⟩) (c19 : PySem.W.codeIn K cd19 "_law_end" = true) (k19 : PySem.W.keepIn K (.ref f19) = true)
    {f20 : Addr} {od20 an20 : Option Addr} {sl20 : Array (Option Value)} {oc20 kV20 dc20 pm20 cd20 ct20 : Value}
    (a20 : PySem.W.nsIn K mainGlobals "_law_passes" = some (some (.ref f20))) (l20 : K.lookup f20 = some ⟨oc20, od20, .func (PySem.W.fnOf "_law_passes" "_law_passes" (defArgs st__law_passes) (defBody st__law_passes) (defScope st__law_passes) .none kV20 dc20 pm20 an20 cd20 ct20), sl20⟩) (c20 : PySem.W.codeIn K cd20 "_law_passes" = true) (k20 : PySem.W.keepIn K (.ref f20) = true)
    {f21 : Addr} {od21 an21 : Option Addr} {sl21 : Array (Option Value)} {oc21 kV21 dc21 pm21 cd21 ct21 : Value}
    (a21 : PySem.W.nsIn K mainGlobals "_law_hand" = some (some (.ref f21))) (l21 : K.lookup f21 = some ⟨oc21, od21, .func (PySem.W.fnOf "_law_hand" "_law_hand" (defArgs st__law_hand) (defBody st__law_hand) (defScope st__law_hand) .none kV21 dc21 pm21 an21 cd21 ct21), sl21⟩) (c21 : PySem.W.codeIn K cd21 "_law_hand" = true) (k21 : PySem.W.keepIn K (.ref f21) = true)
    {f22 : Addr} {od22 an22 : Option Addr} {sl22 : Array (Option Value)} {oc22 kV22 dc22 pm22 cd22 ct22 : Value}
    (a22 : PySem.W.nsIn K mainGlobals "_law_word" = some (some (.ref f22))) (l22 : K.lookup f22 = some ⟨oc22, od22, .func (PySem.W.fnOf "_law_word" "_law_word" (defArgs st__law_word) (defBody st__law_word) (defScope st__law_word) .none kV22 dc22 pm22 an22 cd22 ct22), sl22⟩) (c22 : PySem.W.codeIn K cd22 "_law_word" = true) (k22 : PySem.W.keepIn K (.ref f22) = true)
    {f23 : Addr} {od23 an23 : Option Addr} {sl23 : Array (Option Value)} {oc23 kV23 dc23 pm23 ct23 : Value}
    (a23 : PySem.W.nsIn K mainGlobals "law" = some (some (.ref f23))) (l23 : K.lookup f23 = some ⟨oc23, od23, .func (PySem.W.fnOf "law" "law" (defArgs st_law) (defBody st_law) (defScope st_law) .none kV23 dc23 pm23 an23 (.ref c) ct23), sl23⟩) (c23 : PySem.W.codeIn K (.ref c) "law" = true) (k23 : PySem.W.keepIn K (.ref f23) = true)
    {t_MOST_CHOICE : Tok} (c_MOST_CHOICE : PySem.W.nsIn K mainGlobals "MOST_CHOICE" = some (some (.int 5 t_MOST_CHOICE)))
    {t_MOST_VOTERS : Tok} (c_MOST_VOTERS : PySem.W.nsIn K mainGlobals "MOST_VOTERS" = some (some (.int 8 t_MOST_VOTERS)))
    {t_NONE : Tok} (s_NONE : PySem.W.nsIn K mainGlobals "NONE" = some (some (.str (Str.ofString "none") t_NONE)))
    {t_OWN : Tok} (s_OWN : PySem.W.nsIn K mainGlobals "OWN" = some (some (.str (Str.ofString "own") t_OWN)))
    {t_TO : Tok} (s_TO : PySem.W.nsIn K mainGlobals "TO" = some (some (.str (Str.ofString "to") t_TO)))
    (z_ValueError : PySem.W.nsIn K mainGlobals "ValueError" = some none)
    (z_abs : PySem.W.nsIn K mainGlobals "abs" = some none)
    (z_all : PySem.W.nsIn K mainGlobals "all" = some none)
    (z_any : PySem.W.nsIn K mainGlobals "any" = some none)
    (z_bool : PySem.W.nsIn K mainGlobals "bool" = some none)
    (z_enumerate : PySem.W.nsIn K mainGlobals "enumerate" = some none)
    (z_int : PySem.W.nsIn K mainGlobals "int" = some none)
    (z_isinstance : PySem.W.nsIn K mainGlobals "isinstance" = some none)
    (z_len : PySem.W.nsIn K mainGlobals "len" = some none)
    (z_list : PySem.W.nsIn K mainGlobals "list" = some none)
    (z_min : PySem.W.nsIn K mainGlobals "min" = some none)
    (z_range : PySem.W.nsIn K mainGlobals "range" = some none)
    (z_repr : PySem.W.nsIn K mainGlobals "repr" = some none)
    (z_str : PySem.W.nsIn K mainGlobals "str" = some none)
    (z_sum : PySem.W.nsIn K mainGlobals "sum" = some none)
    (z_tuple : PySem.W.nsIn K mainGlobals "tuple" = some none)
    (z_zip : PySem.W.nsIn K mainGlobals "zip" = some none)
    : ∀ base : Heap, K.In base → base.Ns mainGlobals mg → LamX.TabB base mg c Pt → ∃ fd : FuncData, FnG l.prog w K mg base CX0 9 fa fd ["script"] (spGT K 1 c_law Pt) ∧ Binds K fd ["script"] [] := by
  have F0 := fun_mk (st := st_is_integer) l0 c0 k0
  have F1 := fun_mk (st := st_is_within) l1 c1 k1
  have F2 := fun_mk (st := st_is_pass) l2 c2 k2
  have F3 := fun_mk (st := st_is_sized) l3 c3 k3
  have F4 := fun_mk (st := st_are_passes) l4 c4 k4
  have F5 := fun_mk (st := st_check_passes) l5 c5 k5
  have F6 := fun_mk (st := st_pass_rounds) l6 c6 k6
  have F7 := fun_mk (st := st_raw_end) l7 c7 k7
  have F8 := fun_mk (st := st_raw_weights) l8 c8 k8
  have F9 := fun_mk (st := st_raw_outcome) l9 c9 k9
  have F10 := fun_mk (st := st_outcome) l10 c10 k10
  have F11 := fun_mk (st := st_weights) l11 c11 k11
  have F12 := fun_mk (st := st_check_voter) l12 c12 k12
  have F13 := fun_mk (st := st_end_of) l13 c13 k13
  have F14 := fun_mk (st := st__law_draw) l14 c14 k14
  have F15 := fun_mk (st := st__law_any) l15 c15 k15
  have F16 := fun_mk (st := st__law_no_passes) l16 c16 k16
  have F17 := fun_mk (st := st__law_is) l17 c17 k17
  have F18 := fun_mk (st := st__law_rounds) l18 c18 k18
  have F19 := fun_mk (st := st__law_end) l19 c19 k19
  have F20 := fun_mk (st := st__law_passes) l20 c20 k20
  have F21 := fun_mk (st := st__law_hand) l21 c21 k21
  have F22 := fun_mk (st := st__law_word) l22 c22 k22
  have F23 := fun_mk (st := st_law) l23 c23 k23
  have G_VoteError := PySem.W.mg_of X G g_VoteError
  have G_NoPasses := PySem.W.mg_of X G g_NoPasses
  have G_NoVoter := PySem.W.mg_of X G g_NoVoter
  have ER : ErrF K mg CS isB := by
    refine ⟨fun c hc => ?_, fun c hc x hx D C h1 h2 => ?_, fun c hc D h1 => ?_, fun c hc x hx D C h1 h2 => ?_⟩
    · simp only [CS, List.mem_cons, List.not_mem_nil, or_false] at hc
      rcases hc with rfl | rfl | rfl
      · exact ⟨_, G_VoteError, ⟨h1_VoteError, h2_VoteError, h3_VoteError, h4_VoteError, h5_VoteError, hx6, hx7, h8_VoteError⟩⟩
      · exact ⟨_, G_NoPasses, ⟨h1_NoPasses, h2_NoPasses, h3_NoPasses, h4_NoPasses, h5_NoPasses, hx6, hx7, h8_NoPasses⟩⟩
      · exact ⟨_, G_NoVoter, ⟨h1_NoVoter, h2_NoVoter, h3_NoVoter, h4_NoVoter, h5_NoVoter, hx6, hx7, h8_NoVoter⟩⟩
    · simp only [CS, List.mem_cons, List.not_mem_nil, or_false] at hc hx
      rcases hc with rfl | rfl | rfl
      · rcases hx with rfl | rfl | rfl
        · rw [G_VoteError] at h1; rw [G_VoteError] at h2; cases h1; cases h2; rw [show isB "VoteError" "VoteError" = true from by decide]; exact kk_VoteError_VoteError
        · rw [G_VoteError] at h1; rw [G_NoPasses] at h2; cases h1; cases h2; rw [show isB "VoteError" "NoPasses" = false from by decide]; exact kk_VoteError_NoPasses
        · rw [G_VoteError] at h1; rw [G_NoVoter] at h2; cases h1; cases h2; rw [show isB "VoteError" "NoVoter" = false from by decide]; exact kk_VoteError_NoVoter
      · rcases hx with rfl | rfl | rfl
        · rw [G_NoPasses] at h1; rw [G_VoteError] at h2; cases h1; cases h2; rw [show isB "NoPasses" "VoteError" = true from by decide]; exact kk_NoPasses_VoteError
        · rw [G_NoPasses] at h1; rw [G_NoPasses] at h2; cases h1; cases h2; rw [show isB "NoPasses" "NoPasses" = true from by decide]; exact kk_NoPasses_NoPasses
        · rw [G_NoPasses] at h1; rw [G_NoVoter] at h2; cases h1; cases h2; rw [show isB "NoPasses" "NoVoter" = false from by decide]; exact kk_NoPasses_NoVoter
      · rcases hx with rfl | rfl | rfl
        · rw [G_NoVoter] at h1; rw [G_VoteError] at h2; cases h1; cases h2; rw [show isB "NoVoter" "VoteError" = true from by decide]; exact kk_NoVoter_VoteError
        · rw [G_NoVoter] at h1; rw [G_NoPasses] at h2; cases h1; cases h2; rw [show isB "NoVoter" "NoPasses" = false from by decide]; exact kk_NoVoter_NoPasses
        · rw [G_NoVoter] at h1; rw [G_NoVoter] at h2; cases h1; cases h2; rw [show isB "NoVoter" "NoVoter" = true from by decide]; exact kk_NoVoter_NoVoter
    · simp only [CS, List.mem_cons, List.not_mem_nil, or_false] at hc
      rcases hc with rfl | rfl | rfl
      · rw [G_VoteError] at h1; cases h1; exact kv_VoteError
      · rw [G_NoPasses] at h1; cases h1; exact kv_NoPasses
      · rw [G_NoVoter] at h1; cases h1; exact kv_NoVoter
    · simp only [CS, List.mem_cons, List.not_mem_nil, or_false] at hc hx
      rcases hc with rfl | rfl | rfl
      · rcases hx with rfl | rfl | rfl
        · rw [G_VoteError] at h1; rw [G_VoteError] at h2; cases h1; cases h2; rw [show isB "VoteError" "VoteError" = true from by decide]; exact ke_VoteError_VoteError
        · rw [G_VoteError] at h1; rw [G_NoPasses] at h2; cases h1; cases h2; rw [show isB "VoteError" "NoPasses" = false from by decide]; exact ke_VoteError_NoPasses
        · rw [G_VoteError] at h1; rw [G_NoVoter] at h2; cases h1; cases h2; rw [show isB "VoteError" "NoVoter" = false from by decide]; exact ke_VoteError_NoVoter
      · rcases hx with rfl | rfl | rfl
        · rw [G_NoPasses] at h1; rw [G_VoteError] at h2; cases h1; cases h2; rw [show isB "NoPasses" "VoteError" = true from by decide]; exact ke_NoPasses_VoteError
        · rw [G_NoPasses] at h1; rw [G_NoPasses] at h2; cases h1; cases h2; rw [show isB "NoPasses" "NoPasses" = true from by decide]; exact ke_NoPasses_NoPasses
        · rw [G_NoPasses] at h1; rw [G_NoVoter] at h2; cases h1; cases h2; rw [show isB "NoPasses" "NoVoter" = false from by decide]; exact ke_NoPasses_NoVoter
      · rcases hx with rfl | rfl | rfl
        · rw [G_NoVoter] at h1; rw [G_VoteError] at h2; cases h1; cases h2; rw [show isB "NoVoter" "VoteError" = true from by decide]; exact ke_NoVoter_VoteError
        · rw [G_NoVoter] at h1; rw [G_NoPasses] at h2; cases h1; cases h2; rw [show isB "NoVoter" "NoPasses" = false from by decide]; exact ke_NoVoter_NoPasses
        · rw [G_NoVoter] at h1; rw [G_NoVoter] at h2; cases h1; cases h2; rw [show isB "NoVoter" "NoVoter" = true from by decide]; exact ke_NoVoter_NoVoter
  have A : Fa K mg := {
    c_MOST_CHOICE := ⟨_, PySem.W.mg_of X G c_MOST_CHOICE⟩
    c_MOST_VOTERS := ⟨_, PySem.W.mg_of X G c_MOST_VOTERS⟩
    e_NoPasses := ⟨_, G_NoPasses, e1_NoPasses, e2_NoPasses, h3_NoPasses, e4_NoPasses⟩
    e_NoVoter := ⟨_, G_NoVoter, e1_NoVoter, e2_NoVoter, h3_NoVoter, e4_NoVoter⟩
    s_NONE := ⟨_, PySem.W.mg_of X G s_NONE⟩
    s_OWN := ⟨_, PySem.W.mg_of X G s_OWN⟩
    s_TO := ⟨_, PySem.W.mg_of X G s_TO⟩
    z_ValueError := PySem.W.mg_none_of X G z_ValueError
    z_abs := PySem.W.mg_none_of X G z_abs
    z_all := PySem.W.mg_none_of X G z_all
    z_any := PySem.W.mg_none_of X G z_any
    z_bool := PySem.W.mg_none_of X G z_bool
    z_enumerate := PySem.W.mg_none_of X G z_enumerate
    z_int := PySem.W.mg_none_of X G z_int
    z_isinstance := PySem.W.mg_none_of X G z_isinstance
    z_len := PySem.W.mg_none_of X G z_len
    z_list := PySem.W.mg_none_of X G z_list
    z_min := PySem.W.mg_none_of X G z_min
    z_range := PySem.W.mg_none_of X G z_range
    z_repr := PySem.W.mg_none_of X G z_repr
    z_str := PySem.W.mg_none_of X G z_str
    z_sum := PySem.W.mg_none_of X G z_sum
    z_tuple := PySem.W.mg_none_of X G z_tuple
    z_zip := PySem.W.mg_none_of X G z_zip
    err := ER
    d_is_integer := ⟨f0, _, F0, PySem.W.mg_of X G a0, F0.binds fun _ _ _ _ _ _ us hl => match us, hl with | [_], _ => rfl⟩
    d_is_within := ⟨f1, _, F1, PySem.W.mg_of X G a1, F1.binds fun _ _ _ _ _ _ us hl => match us, hl with | [_, _, _], _ => rfl⟩
    d_is_pass := ⟨f2, _, F2, PySem.W.mg_of X G a2, F2.binds fun _ _ _ _ _ _ us hl => match us, hl with | [_, _], _ => rfl⟩
    d_is_sized := ⟨f3, _, F3, PySem.W.mg_of X G a3, F3.binds fun _ _ _ _ _ _ us hl => match us, hl with | [_, _, _], _ => rfl⟩
    d_are_passes := ⟨f4, _, F4, PySem.W.mg_of X G a4, F4.binds fun _ _ _ _ _ _ us hl => match us, hl with | [_], _ => rfl⟩
    d_check_passes := ⟨f5, _, F5, PySem.W.mg_of X G a5, F5.binds fun _ _ _ _ _ _ us hl => match us, hl with | [_], _ => rfl⟩
    d_pass_rounds := ⟨f6, _, F6, PySem.W.mg_of X G a6, F6.binds fun _ _ _ _ _ _ us hl => match us, hl with | [_], _ => rfl⟩
    d_raw_end := ⟨f7, _, F7, PySem.W.mg_of X G a7, F7.binds fun _ _ _ _ _ _ us hl => match us, hl with | [_, _], _ => rfl⟩
    d_raw_weights := ⟨f8, _, F8, PySem.W.mg_of X G a8, F8.binds fun _ _ _ _ _ _ us hl => match us, hl with | [_], _ => rfl⟩
    d_raw_outcome := ⟨f9, _, F9, PySem.W.mg_of X G a9, F9.binds fun _ _ _ _ _ _ us hl => match us, hl with | [_], _ => rfl⟩
    d_outcome := ⟨f10, _, F10, PySem.W.mg_of X G a10, F10.binds fun _ _ _ _ _ _ us hl => match us, hl with | [_], _ => rfl⟩
    d_weights := ⟨f11, _, F11, PySem.W.mg_of X G a11, F11.binds fun _ _ _ _ _ _ us hl => match us, hl with | [_], _ => rfl⟩
    d_check_voter := ⟨f12, _, F12, PySem.W.mg_of X G a12, F12.binds fun _ _ _ _ _ _ us hl => match us, hl with | [_, _], _ => rfl⟩
    d_end_of := ⟨f13, _, F13, PySem.W.mg_of X G a13, F13.binds fun _ _ _ _ _ _ us hl => match us, hl with | [_, _], _ => rfl⟩
    d__law_draw := ⟨f14, _, F14, PySem.W.mg_of X G a14, F14.binds fun _ _ _ _ _ _ us hl => match us, hl with | [_, _], _ => rfl⟩
    d__law_any := ⟨f15, _, F15, PySem.W.mg_of X G a15, F15.binds fun _ _ _ _ _ _ us hl => match us, hl with | [_, _], _ => rfl⟩
    d__law_no_passes := ⟨f16, _, F16, PySem.W.mg_of X G a16, F16.binds fun _ _ _ _ _ _ us hl => match us, hl with | [_, _], _ => rfl⟩
    d__law_is := ⟨f17, _, F17, PySem.W.mg_of X G a17, F17.binds fun _ _ _ _ _ _ us hl => match us, hl with | [_, _], _ => rfl⟩
    d__law_rounds := ⟨f18, _, F18, PySem.W.mg_of X G a18, F18.binds fun _ _ _ _ _ _ us hl => match us, hl with | [_], _ => rfl⟩
    d__law_end := ⟨f19, _, F19, PySem.W.mg_of X G a19, F19.binds fun _ _ _ _ _ _ us hl => match us, hl with | [_, _], _ => rfl⟩
    d__law_passes := ⟨f20, _, F20, PySem.W.mg_of X G a20, F20.binds fun _ _ _ _ _ _ us hl => match us, hl with | [_], _ => rfl⟩
    d__law_hand := ⟨f21, _, F21, PySem.W.mg_of X G a21, F21.binds fun _ _ _ _ _ _ us hl => match us, hl with | [_], _ => rfl⟩
    d__law_word := ⟨f22, _, F22, PySem.W.mg_of X G a22, F22.binds fun _ _ _ _ _ _ us hl => match us, hl with | [_], _ => rfl⟩
    d_law := ⟨f23, _, F23, PySem.W.mg_of X G a23, F23.binds fun _ _ _ _ _ _ us hl => match us, hl with | [_], _ => rfl⟩ }
  have FL := funC_mk (st := st_law) l23 c23 k23
  have ea := PySem.W.mg_of X G a23
  rw [hfa] at ea
  cases ea
  intro base _ _ TB
  exact ⟨_, fnG_ofT FL sc_law (bd_law A TB), F23.binds fun _ _ _ _ _ _ us hl => match us, hl with | [_], _ => rfl⟩
end K50
open PySem PySem.W PyProof.Rows
set_option maxHeartbeats 0 in
theorem PySem.Challenge.cw_votehouse_k50_whole_votes_passed_on_by_e_holds : PySem.Challenge.rw_votehouse_k50_whole_votes_passed_on_by_e.Holds := by
  w_on; o_law; k_head; (case hw => w_witness2)
  k_fill
  refine Iv.walk_GT (l := PySem.Challenge.rw_votehouse_k50_whole_votes_passed_on_by_e) (n := 63) (k := 9) (x := "script") (c := ?c) (Pt := ?Pt) (sp := fun w => Iv.spGT _ 1 K50.c_law _) rfl (by decide) rfl ⟨rfl, by decide, by decide⟩ (fun w h Y => PySem.W.km_in_of Y) rfl ?tT1 ?nT1 ?F (fun _ _ a ns hl hP hE hS => ⟨⟨_, hP⟩, Iv.want_of (Iv.tabs_empty hE) hS (K50.law_true ns hl)⟩)
  case tT1 => exact fun w => by with_unfolding_all rfl
  case nT1 => exact fun w => by first | k_is | with_unfolding_all rfl
  case F =>
    intro w mg fa h KX G hmg
    refine' K50.all_mk KX G hmg ?g_VoteError ?h1_VoteError ?h2_VoteError ?h3_VoteError ?h4_VoteError ?h5_VoteError ?h8_VoteError ?kv_VoteError ?g_NoPasses ?h1_NoPasses ?h2_NoPasses ?h3_NoPasses ?h4_NoPasses ?h5_NoPasses ?h8_NoPasses ?kv_NoPasses ?e1_NoPasses ?e2_NoPasses ?e4_NoPasses ?g_NoVoter ?h1_NoVoter ?h2_NoVoter ?h3_NoVoter ?h4_NoVoter ?h5_NoVoter ?h8_NoVoter ?kv_NoVoter ?e1_NoVoter ?e2_NoVoter ?e4_NoVoter ?hx6 ?hx7 ?kk_VoteError_VoteError ?ke_VoteError_VoteError ?kk_VoteError_NoPasses ?ke_VoteError_NoPasses ?kk_VoteError_NoVoter ?ke_VoteError_NoVoter ?kk_NoPasses_VoteError ?ke_NoPasses_VoteError ?kk_NoPasses_NoPasses ?ke_NoPasses_NoPasses ?kk_NoPasses_NoVoter ?ke_NoPasses_NoVoter ?kk_NoVoter_VoteError ?ke_NoVoter_VoteError ?kk_NoVoter_NoPasses ?ke_NoVoter_NoPasses ?kk_NoVoter_NoVoter ?ke_NoVoter_NoVoter ?a0 ?l0 ?c0 ?k0 ?a1 ?l1 ?c1 ?k1 ?a2 ?l2 ?c2 ?k2 ?a3 ?l3 ?c3 ?k3 ?a4 ?l4 ?c4 ?k4 ?a5 ?l5 ?c5 ?k5 ?a6 ?l6 ?c6 ?k6 ?a7 ?l7 ?c7 ?k7 ?a8 ?l8 ?c8 ?k8 ?a9 ?l9 ?c9 ?k9 ?a10 ?l10 ?c10 ?k10 ?a11 ?l11 ?c11 ?k11 ?a12 ?l12 ?c12 ?k12 ?a13 ?l13 ?c13 ?k13 ?a14 ?l14 ?c14 ?k14 ?a15 ?l15 ?c15 ?k15 ?a16 ?l16 ?c16 ?k16 ?a17 ?l17 ?c17 ?k17 ?a18 ?l18 ?c18 ?k18 ?a19 ?l19 ?c19 ?k19 ?a20 ?l20 ?c20 ?k20 ?a21 ?l21 ?c21 ?k21 ?a22 ?l22 ?c22 ?k22 ?a23 ?l23 ?c23 ?k23 ?c_MOST_CHOICE ?c_MOST_VOTERS ?s_NONE ?s_OWN ?s_TO ?z_ValueError ?z_abs ?z_all ?z_any ?z_bool ?z_enumerate ?z_int ?z_isinstance ?z_len ?z_list ?z_min ?z_range ?z_repr ?z_str ?z_sum ?z_tuple ?z_zip
    (case g_VoteError => first | k_is | kernel_rfl | with_unfolding_all rfl); (case h1_VoteError => first | k_is | kernel_rfl | with_unfolding_all rfl); (case h2_VoteError => first | k_is | kernel_rfl | with_unfolding_all rfl); (case h3_VoteError => first | k_is | kernel_rfl | with_unfolding_all rfl); (case h4_VoteError => first | k_is | kernel_rfl | with_unfolding_all rfl); (case h5_VoteError => first | k_is | kernel_rfl | with_unfolding_all rfl); (case h8_VoteError => first | k_is | kernel_rfl | with_unfolding_all rfl); (case kv_VoteError => first | k_is | kernel_rfl | with_unfolding_all rfl); (case g_NoPasses => first | k_is | kernel_rfl | with_unfolding_all rfl); (case h1_NoPasses => first | k_is | kernel_rfl | with_unfolding_all rfl); (case h2_NoPasses => first | k_is | kernel_rfl | with_unfolding_all rfl); (case h3_NoPasses => first | k_is | kernel_rfl | with_unfolding_all rfl); (case h4_NoPasses => first | k_is | kernel_rfl | with_unfolding_all rfl); (case h5_NoPasses => first | k_is | kernel_rfl | with_unfolding_all rfl); (case h8_NoPasses => first | k_is | kernel_rfl | with_unfolding_all rfl); (case kv_NoPasses => first | k_is | kernel_rfl | with_unfolding_all rfl); (case e1_NoPasses => first | k_is | kernel_rfl | with_unfolding_all rfl); (case e2_NoPasses => first | k_is | kernel_rfl | with_unfolding_all rfl); (case e4_NoPasses => first | k_is | kernel_rfl | with_unfolding_all rfl); (case g_NoVoter => first | k_is | kernel_rfl | with_unfolding_all rfl); (case h1_NoVoter => first | k_is | kernel_rfl | with_unfolding_all rfl); (case h2_NoVoter => first | k_is | kernel_rfl | with_unfolding_all rfl); (case h3_NoVoter => first | k_is | kernel_rfl | with_unfolding_all rfl); (case h4_NoVoter => first | k_is | kernel_rfl | with_unfolding_all rfl); (case h5_NoVoter => first | k_is | kernel_rfl | with_unfolding_all rfl); (case h8_NoVoter => first | k_is | kernel_rfl | with_unfolding_all rfl); (case kv_NoVoter => first | k_is | kernel_rfl | with_unfolding_all rfl); (case e1_NoVoter => first | k_is | kernel_rfl | with_unfolding_all rfl); (case e2_NoVoter => first | k_is | kernel_rfl | with_unfolding_all rfl); (case e4_NoVoter => first | k_is | kernel_rfl | with_unfolding_all rfl); (case hx6 => first | k_is | kernel_rfl | with_unfolding_all rfl); (case hx7 => first | k_is | kernel_rfl | with_unfolding_all rfl); (case kk_VoteError_VoteError => first | k_is | kernel_rfl | with_unfolding_all rfl); (case ke_VoteError_VoteError => first | k_is | kernel_rfl | with_unfolding_all rfl); (case kk_VoteError_NoPasses => first | k_is | kernel_rfl | with_unfolding_all rfl); (case ke_VoteError_NoPasses => first | k_is | kernel_rfl | with_unfolding_all rfl); (case kk_VoteError_NoVoter => first | k_is | kernel_rfl | with_unfolding_all rfl); (case ke_VoteError_NoVoter => first | k_is | kernel_rfl | with_unfolding_all rfl); (case kk_NoPasses_VoteError => first | k_is | kernel_rfl | with_unfolding_all rfl); (case ke_NoPasses_VoteError => first | k_is | kernel_rfl | with_unfolding_all rfl); (case kk_NoPasses_NoPasses => first | k_is | kernel_rfl | with_unfolding_all rfl); (case ke_NoPasses_NoPasses => first | k_is | kernel_rfl | with_unfolding_all rfl); (case kk_NoPasses_NoVoter => first | k_is | kernel_rfl | with_unfolding_all rfl); (case ke_NoPasses_NoVoter => first | k_is | kernel_rfl | with_unfolding_all rfl); (case kk_NoVoter_VoteError => first | k_is | kernel_rfl | with_unfolding_all rfl); (case ke_NoVoter_VoteError => first | k_is | kernel_rfl | with_unfolding_all rfl); (case kk_NoVoter_NoPasses => first | k_is | kernel_rfl | with_unfolding_all rfl); (case ke_NoVoter_NoPasses => first | k_is | kernel_rfl | with_unfolding_all rfl); (case kk_NoVoter_NoVoter => first | k_is | kernel_rfl | with_unfolding_all rfl); (case ke_NoVoter_NoVoter => first | k_is | kernel_rfl | with_unfolding_all rfl); (case a0 => first | k_is | kernel_rfl | with_unfolding_all rfl); (case l0 => first | k_is | kernel_rfl | with_unfolding_all rfl); (case c0 => first | k_is | kernel_rfl | with_unfolding_all rfl); (case k0 => first | k_is | kernel_rfl | with_unfolding_all rfl); (case a1 => first | k_is | kernel_rfl | with_unfolding_all rfl); (case l1 => first | k_is | kernel_rfl | with_unfolding_all rfl); (case c1 => first | k_is | kernel_rfl | with_unfolding_all rfl); (case k1 => first | k_is | kernel_rfl | with_unfolding_all rfl); (case a2 => first | k_is | kernel_rfl | with_unfolding_all rfl); (case l2 => first | k_is | kernel_rfl | with_unfolding_all rfl); (case c2 => first | k_is | kernel_rfl | with_unfolding_all rfl); (case k2 => first | k_is | kernel_rfl | with_unfolding_all rfl); (case a3 => first | k_is | kernel_rfl | with_unfolding_all rfl); (case l3 => first | k_is | kernel_rfl | with_unfolding_all rfl); (case c3 => first | k_is | kernel_rfl | with_unfolding_all rfl); (case k3 => first | k_is | kernel_rfl | with_unfolding_all rfl); (case a4 => first | k_is | kernel_rfl | with_unfolding_all rfl); (case l4 => first | k_is | kernel_rfl | with_unfolding_all rfl); (case c4 => first | k_is | kernel_rfl | with_unfolding_all rfl); (case k4 => first | k_is | kernel_rfl | with_unfolding_all rfl); (case a5 => first | k_is | kernel_rfl | with_unfolding_all rfl); (case l5 => first | k_is | kernel_rfl | with_unfolding_all rfl); (case c5 => first | k_is | kernel_rfl | with_unfolding_all rfl); (case k5 => first | k_is | kernel_rfl | with_unfolding_all rfl); (case a6 => first | k_is | kernel_rfl | with_unfolding_all rfl); (case l6 => first | k_is | kernel_rfl | with_unfolding_all rfl); (case c6 => first | k_is | kernel_rfl | with_unfolding_all rfl); (case k6 => first | k_is | kernel_rfl | with_unfolding_all rfl); (case a7 => first | k_is | kernel_rfl | with_unfolding_all rfl); (case l7 => first | k_is | kernel_rfl | with_unfolding_all rfl); (case c7 => first | k_is | kernel_rfl | with_unfolding_all rfl); (case k7 => first | k_is | kernel_rfl | with_unfolding_all rfl); (case a8 => first | k_is | kernel_rfl | with_unfolding_all rfl); (case l8 => first | k_is | kernel_rfl | with_unfolding_all rfl); (case c8 => first | k_is | kernel_rfl | with_unfolding_all rfl); (case k8 => first | k_is | kernel_rfl | with_unfolding_all rfl); (case a9 => first | k_is | kernel_rfl | with_unfolding_all rfl); (case l9 => first | k_is | kernel_rfl | with_unfolding_all rfl); (case c9 => first | k_is | kernel_rfl | with_unfolding_all rfl); (case k9 => first | k_is | kernel_rfl | with_unfolding_all rfl); (case a10 => first | k_is | kernel_rfl | with_unfolding_all rfl); (case l10 => first | k_is | kernel_rfl | with_unfolding_all rfl); (case c10 => first | k_is | kernel_rfl | with_unfolding_all rfl); (case k10 => first | k_is | kernel_rfl | with_unfolding_all rfl); (case a11 => first | k_is | kernel_rfl | with_unfolding_all rfl); (case l11 => first | k_is | kernel_rfl | with_unfolding_all rfl); (case c11 => first | k_is | kernel_rfl | with_unfolding_all rfl); (case k11 => first | k_is | kernel_rfl | with_unfolding_all rfl); (case a12 => first | k_is | kernel_rfl | with_unfolding_all rfl); (case l12 => first | k_is | kernel_rfl | with_unfolding_all rfl); (case c12 => first | k_is | kernel_rfl | with_unfolding_all rfl); (case k12 => first | k_is | kernel_rfl | with_unfolding_all rfl); (case a13 => first | k_is | kernel_rfl | with_unfolding_all rfl); (case l13 => first | k_is | kernel_rfl | with_unfolding_all rfl); (case c13 => first | k_is | kernel_rfl | with_unfolding_all rfl); (case k13 => first | k_is | kernel_rfl | with_unfolding_all rfl); (case a14 => first | k_is | kernel_rfl | with_unfolding_all rfl); (case l14 => first | k_is | kernel_rfl | with_unfolding_all rfl); (case c14 => first | k_is | kernel_rfl | with_unfolding_all rfl); (case k14 => first | k_is | kernel_rfl | with_unfolding_all rfl); (case a15 => first | k_is | kernel_rfl | with_unfolding_all rfl); (case l15 => first | k_is | kernel_rfl | with_unfolding_all rfl); (case c15 => first | k_is | kernel_rfl | with_unfolding_all rfl); (case k15 => first | k_is | kernel_rfl | with_unfolding_all rfl); (case a16 => first | k_is | kernel_rfl | with_unfolding_all rfl); (case l16 => first | k_is | kernel_rfl | with_unfolding_all rfl); (case c16 => first | k_is | kernel_rfl | with_unfolding_all rfl); (case k16 => first | k_is | kernel_rfl | with_unfolding_all rfl); (case a17 => first | k_is | kernel_rfl | with_unfolding_all rfl); (case l17 => first | k_is | kernel_rfl | with_unfolding_all rfl); (case c17 => first | k_is | kernel_rfl | with_unfolding_all rfl); (case k17 => first | k_is | kernel_rfl | with_unfolding_all rfl); (case a18 => first | k_is | kernel_rfl | with_unfolding_all rfl); (case l18 => first | k_is | kernel_rfl | with_unfolding_all rfl); (case c18 => first | k_is | kernel_rfl | with_unfolding_all rfl); (case k18 => first | k_is | kernel_rfl | with_unfolding_all rfl); (case a19 => first | k_is | kernel_rfl | with_unfolding_all rfl); (case l19 => first | k_is | kernel_rfl | with_unfolding_all rfl); (case c19 => first | k_is | kernel_rfl | with_unfolding_all rfl); (case k19 => first | k_is | kernel_rfl | with_unfolding_all rfl); (case a20 => first | k_is | kernel_rfl | with_unfolding_all rfl); (case l20 => first | k_is | kernel_rfl | with_unfolding_all rfl); (case c20 => first | k_is | kernel_rfl | with_unfolding_all rfl); (case k20 => first | k_is | kernel_rfl | with_unfolding_all rfl); (case a21 => first | k_is | kernel_rfl | with_unfolding_all rfl); (case l21 => first | k_is | kernel_rfl | with_unfolding_all rfl); (case c21 => first | k_is | kernel_rfl | with_unfolding_all rfl); (case k21 => first | k_is | kernel_rfl | with_unfolding_all rfl); (case a22 => first | k_is | kernel_rfl | with_unfolding_all rfl); (case l22 => first | k_is | kernel_rfl | with_unfolding_all rfl); (case c22 => first | k_is | kernel_rfl | with_unfolding_all rfl); (case k22 => first | k_is | kernel_rfl | with_unfolding_all rfl); (case a23 => first | k_is | kernel_rfl | with_unfolding_all rfl); (case l23 => first | k_is | kernel_rfl | with_unfolding_all rfl); (case c23 => first | k_is | kernel_rfl | with_unfolding_all rfl); (case k23 => first | k_is | kernel_rfl | with_unfolding_all rfl); (case c_MOST_CHOICE => first | k_is | kernel_rfl | with_unfolding_all rfl); (case c_MOST_VOTERS => first | k_is | kernel_rfl | with_unfolding_all rfl); (case s_NONE => first | k_is | kernel_rfl | with_unfolding_all rfl); (case s_OWN => first | k_is | kernel_rfl | with_unfolding_all rfl); (case s_TO => first | k_is | kernel_rfl | with_unfolding_all rfl); (case z_ValueError => first | k_is | kernel_rfl | with_unfolding_all rfl); (case z_abs => first | k_is | kernel_rfl | with_unfolding_all rfl); (case z_all => first | k_is | kernel_rfl | with_unfolding_all rfl); (case z_any => first | k_is | kernel_rfl | with_unfolding_all rfl); (case z_bool => first | k_is | kernel_rfl | with_unfolding_all rfl); (case z_enumerate => first | k_is | kernel_rfl | with_unfolding_all rfl); (case z_int => first | k_is | kernel_rfl | with_unfolding_all rfl); (case z_isinstance => first | k_is | kernel_rfl | with_unfolding_all rfl); (case z_len => first | k_is | kernel_rfl | with_unfolding_all rfl); (case z_list => first | k_is | kernel_rfl | with_unfolding_all rfl); (case z_min => first | k_is | kernel_rfl | with_unfolding_all rfl); (case z_range => first | k_is | kernel_rfl | with_unfolding_all rfl); (case z_repr => first | k_is | kernel_rfl | with_unfolding_all rfl); (case z_str => first | k_is | kernel_rfl | with_unfolding_all rfl); (case z_sum => first | k_is | kernel_rfl | with_unfolding_all rfl); (case z_tuple => first | k_is | kernel_rfl | with_unfolding_all rfl); (case z_zip => first | k_is | kernel_rfl | with_unfolding_all rfl)
